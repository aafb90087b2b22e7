/- What ratio's products compute. -/
import Derived.Test.YtdfokoapenhalaaDoorGRat
namespace Go.Proofs.YtdfokoapenhalaaDoor.Rt
theorem coprime4 {w x y z : Nat} (h1 : Nat.gcd w x = 1) (h2 : Nat.gcd y z = 1) (hx : x ≠ 0) (hz : z ≠ 0) :
    Nat.gcd ((w / Nat.gcd w z) * (y / Nat.gcd y x)) ((x / Nat.gcd y x) * (z / Nat.gcd w z)) = 1 := by
  have g0 : 0 < Nat.gcd w z := Nat.gcd_pos_of_pos_right _ (Nat.pos_of_ne_zero hz)
  have k0 : 0 < Nat.gcd y x := Nat.gcd_pos_of_pos_right _ (Nat.pos_of_ne_zero hx)
  have c1 : Nat.Coprime (w / Nat.gcd w z) (z / Nat.gcd w z) := Nat.coprime_div_gcd_div_gcd g0
  have c2 : Nat.Coprime (y / Nat.gcd y x) (x / Nat.gcd y x) := Nat.coprime_div_gcd_div_gcd k0
  have c3 : Nat.Coprime (w / Nat.gcd w z) (x / Nat.gcd y x) := Nat.Coprime.coprime_dvd_left (Nat.div_dvd_of_dvd (Nat.gcd_dvd_left _ _)) (Nat.Coprime.coprime_dvd_right (Nat.div_dvd_of_dvd (Nat.gcd_dvd_right _ _)) h1)
  have c4 : Nat.Coprime (y / Nat.gcd y x) (z / Nat.gcd w z) := Nat.Coprime.coprime_dvd_left (Nat.div_dvd_of_dvd (Nat.gcd_dvd_left _ _)) (Nat.Coprime.coprime_dvd_right (Nat.div_dvd_of_dvd (Nat.gcd_dvd_right _ _)) h2)
  exact Nat.Coprime.mul_left (Nat.Coprime.mul_right c3 c1) (Nat.Coprime.mul_right c2 c4)
theorem sgn_split (a : Int) : a = (if a < 0 then -1 else 1) * (a.natAbs : Int) := by split <;> omega
/-- The product as a fraction in lowest terms. -/
theorem prod_rat {an ad num den : Int} (ha : ok an ad = true) (hden : den ≠ 0) :
    mkRat (if ((decide (an < 0)) != ((decide (num < 0)) != (decide (den < 0)))) = true then -(((an.natAbs / Nat.gcd an.natAbs den.natAbs) * (num.natAbs / Nat.gcd num.natAbs ad.natAbs) : Nat) : Int) else (((an.natAbs / Nat.gcd an.natAbs den.natAbs) * (num.natAbs / Nat.gcd num.natAbs ad.natAbs) : Nat) : Int))
      ((ad.natAbs / Nat.gcd num.natAbs ad.natAbs) * (den.natAbs / Nat.gcd an.natAbs den.natAbs)) = val an ad * Rat.divInt num den := by
  obtain ⟨a1, a2, a3, a4⟩ := ok_iff.1 ha
  obtain ⟨w', hw⟩ := Nat.gcd_dvd_left an.natAbs den.natAbs
  obtain ⟨z', hz⟩ := Nat.gcd_dvd_right an.natAbs den.natAbs
  obtain ⟨y', hy⟩ := Nat.gcd_dvd_left num.natAbs ad.natAbs
  obtain ⟨x', hx⟩ := Nat.gcd_dvd_right num.natAbs ad.natAbs
  have g0 : 0 < Nat.gcd an.natAbs den.natAbs := Nat.gcd_pos_of_pos_right _ (by omega)
  have k0 : 0 < Nat.gcd num.natAbs ad.natAbs := Nat.gcd_pos_of_pos_right _ (by omega)
  have sa := sgn_split an
  have sn := sgn_split num
  have sd := sgn_split den
  have sx : ad = (ad.natAbs : Int) := by omega
  generalize Nat.gcd an.natAbs den.natAbs = g at *
  generalize Nat.gcd num.natAbs ad.natAbs = k at *
  rw [hw, hz, hx, hy, Nat.mul_div_cancel_left _ g0, Nat.mul_div_cancel_left _ g0, Nat.mul_div_cancel_left _ k0, Nat.mul_div_cancel_left _ k0]
  have hx0 : x' ≠ 0 := fun e => by rw [e] at hx; omega
  have hz0 : z' ≠ 0 := fun e => by rw [e] at hz; omega
  have hD : ((x' * z' : Nat) : Int) ≠ 0 := by
    have := Nat.mul_ne_zero hx0 hz0; omega
  have hE : (((k * x' : Nat) : Int)) * den ≠ 0 := Int.mul_ne_zero (by rw [← hx]; omega) hden
  unfold val
  rw [hx, ← Rat.divInt_ofNat, ← Rat.divInt_ofNat, Rat.divInt_mul_divInt, Rat.divInt_eq_divInt_iff hD hE]
  rw [hw] at sa; rw [hy] at sn; rw [hz] at sd
  simp only [Int.natCast_mul] at *
  by_cases q1 : an < 0 <;> by_cases q2 : num < 0 <;> by_cases q3 : den < 0 <;> simp only [q1, q2, q3, if_true, if_false, decide_true, decide_false, bne_self_eq_false, Bool.false_eq_true, Bool.true_bne, Bool.false_bne, Bool.not_true, Bool.not_false] at sa sn sd ⊢ <;> rw [sa, sn, sd] <;> grind
end Go.Proofs.YtdfokoapenhalaaDoor.Rt
namespace Go.Proofs.YtdfokoapenhalaaDoor.Ab
open Go
theorem and32 (a : Int) (h0 : 0 ≤ a) (h1 : a < 18446744073709551616) : andK .u64 a 4294967295 = a % 4294967296 := by
  obtain ⟨n, rfl⟩ : ∃ n : Nat, a = n := ⟨a.toNat, by omega⟩
  unfold andK
  have e1 : (BitVec.ofInt (IntKind.bits .u64) (n : Int) &&& BitVec.ofInt (IntKind.bits .u64) 4294967295).toNat = n % 4294967296 := by
    show (BitVec.ofInt 64 (n : Int) &&& BitVec.ofInt 64 4294967295).toNat = _
    rw [BitVec.toNat_and, BitVec.toNat_ofInt]
    have : ((n : Int) % (2 ^ 64 : Nat)).toNat = n := by omega
    rw [this]
    show n &&& (2 ^ 32 - 1) = n % 2 ^ 32
    exact Nat.and_two_pow_sub_one_eq_mod n 32
  rw [e1, wrapU _ (by omega) (by omega)]
  omega
theorem shr32 (a : Int) : shrK .u64 a 32 = a / 4294967296 := by
  unfold shrK
  rw [show min (32 : Int).toNat (IntKind.bits .u64) = 32 from rfl, Int.fdiv_eq_ediv_of_nonneg _ (by decide)]
  rfl
theorem mul32 {a b : Int} (h0 : 0 ≤ a) (h1 : a ≤ 4294967295) (h2 : 0 ≤ b) (h3 : b ≤ 4294967295) : 0 ≤ a * b ∧ a * b ≤ 18446744065119617025 := by
  refine ⟨Int.mul_nonneg h0 h2, ?_⟩
  have := Int.mul_le_mul h1 h3 h2 (by omega : (0 : Int) ≤ 4294967295)
  omega
theorem g_Mul64 (x y : Nat) (hx : x < 18446744073709551616) (hy : y < 18446744073709551616) : g_bits_Mul64 x y = some (((x * y / 18446744073709551616 : Nat) : Int), ((x * y % 18446744073709551616 : Nat) : Int)) := by
  unfold g_bits_Mul64
  rw [shr32 (x : Int), shr32 (y : Int), and32 (x : Int) (by omega) (by omega), and32 (y : Int) (by omega) (by omega)]
  have a1 := mul32 (a := (x : Int) / 4294967296) (b := (y : Int) / 4294967296) (by omega) (by omega) (by omega) (by omega)
  have a2 := mul32 (a := (x : Int) / 4294967296) (b := (y : Int) % 4294967296) (by omega) (by omega) (by omega) (by omega)
  have a3 := mul32 (a := (x : Int) % 4294967296) (b := (y : Int) / 4294967296) (by omega) (by omega) (by omega) (by omega)
  have a4 := mul32 (a := (x : Int) % 4294967296) (b := (y : Int) % 4294967296) (by omega) (by omega) (by omega) (by omega)
  have key : (x : Int) * y = (x : Int) / 4294967296 * ((y : Int) / 4294967296) * 18446744073709551616 + ((x : Int) / 4294967296 * ((y : Int) % 4294967296) + (x : Int) % 4294967296 * ((y : Int) / 4294967296)) * 4294967296 + (x : Int) % 4294967296 * ((y : Int) % 4294967296) := by
    have e1 : (x : Int) = (x : Int) / 4294967296 * 4294967296 + (x : Int) % 4294967296 := by omega
    have e2 : (y : Int) = (y : Int) / 4294967296 * 4294967296 + (y : Int) % 4294967296 := by omega
    generalize (x : Int) / 4294967296 = p at *
    generalize (x : Int) % 4294967296 = q at *
    generalize (y : Int) / 4294967296 = r at *
    generalize (y : Int) % 4294967296 = s at *
    rw [e1, e2]; grind
  have hxy : ((x * y : Nat) : Int) = (x : Int) * y := Int.natCast_mul x y
  have w5 : IntKind.u64.wrap ((x : Int) * y) = ((x * y : Nat) : Int) % 18446744073709551616 := by rw [IntKind.wrap_u64, hxy]
  generalize hP : (x : Int) / 4294967296 * ((y : Int) / 4294967296) = p11 at *
  generalize (x : Int) / 4294967296 * ((y : Int) % 4294967296) = p10 at *
  generalize (x : Int) % 4294967296 * ((y : Int) / 4294967296) = p01 at *
  generalize (x : Int) % 4294967296 * ((y : Int) % 4294967296) = p00 at *
  rw [w5]
  rw [key] at hxy
  generalize x * y = n at *
  have hn : (n : Int) < 340282366920938463463374607431768211456 := by omega
  rw [wrapU p11 (by omega) (by omega), wrapU p10 (by omega) (by omega), wrapU p00 (by omega) (by omega), wrapU p01 (by omega) (by omega)]
  rw [shr32 p00, wrapU (p10 + p00 / 4294967296) (by omega) (by omega), and32 (p10 + p00 / 4294967296) (by omega) (by omega), shr32 (p10 + p00 / 4294967296)]
  rw [wrapU ((p10 + p00 / 4294967296) % 4294967296 + p01) (by omega) (by omega), shr32]
  rw [wrapU (p11 + (p10 + p00 / 4294967296) / 4294967296) (by omega) (by omega)]
  rw [wrapU _ (by omega) (by omega)]
  congr 1
  refine Prod.ext ?_ ?_
  · show _ = ((n / 18446744073709551616 : Nat) : Int)
    omega
  · show _ = ((n % 18446744073709551616 : Nat) : Int)
    omega
theorem quo_u (a b : Nat) (ha : a < 18446744073709551616) (hb : b ≠ 0) : quoO .u64 (a : Int) (b : Int) = some ((a / b : Nat) : Int) := by
  unfold quoO; rw [if_neg (by omega), Int.tdiv_eq_ediv_of_nonneg (by omega), ← Int.natCast_ediv]
  have := Nat.div_le_self a b
  generalize a / b = q at this ⊢
  rw [wrapU _ (by omega) (by omega)]
theorem g_product (a : D.Ratio) (num den : Int) (ha : Rt.ok a.Num a.Den = true) (h1 : num.natAbs ≤ 1000000000000) (h2 : den.natAbs ≤ 1000000000000) (h3 : den ≠ 0) (h4 : Nat.gcd num.natAbs den.natAbs = 1) :
    g_ratio_product a num den = some (asR (Rt.fit (Rt.val a.Num a.Den * Rat.divInt num den))) := by
  obtain ⟨an, ad⟩ := a
  simp only at ha
  obtain ⟨a1, a2, a3, a4⟩ := Rt.ok_iff.1 ha
  unfold g_ratio_product
  have hc := Rt.coprime4 a4 h4 (by omega) (by omega)
  have hr := Rt.prod_rat (num := num) ha h3
  have g0 : 0 < Nat.gcd an.natAbs den.natAbs := Nat.gcd_pos_of_pos_right _ (by omega)
  have k0 : 0 < Nat.gcd num.natAbs ad.natAbs := Nat.gcd_pos_of_pos_right _ (by omega)
  have b1 : an.natAbs / Nat.gcd an.natAbs den.natAbs ≤ 1000000000000 := Nat.le_trans (Nat.div_le_self _ _) a3
  have b2 : num.natAbs / Nat.gcd num.natAbs ad.natAbs ≤ 1000000000000 := Nat.le_trans (Nat.div_le_self _ _) h1
  have b3 : ad.natAbs / Nat.gcd num.natAbs ad.natAbs ≤ 1000000 := Nat.le_trans (Nat.div_le_self _ _) (by omega)
  have b4 : den.natAbs / Nat.gcd an.natAbs den.natAbs ≤ 1000000000000 := Nat.le_trans (Nat.div_le_self _ _) h2
  have d1 : 0 < ad.natAbs / Nat.gcd num.natAbs ad.natAbs := Nat.div_pos (Nat.le_of_dvd (by omega) (Nat.gcd_dvd_right _ _)) k0
  have d2 : 0 < den.natAbs / Nat.gcd an.natAbs den.natAbs := Nat.div_pos (Nat.le_of_dvd (by omega) (Nat.gcd_dvd_right _ _)) g0
  have q1 := quo_u an.natAbs (Nat.gcd an.natAbs den.natAbs) (by omega) (by omega)
  have q2 := quo_u num.natAbs (Nat.gcd num.natAbs ad.natAbs) (by omega) (by omega)
  have q3 := quo_u ad.natAbs (Nat.gcd num.natAbs ad.natAbs) (by omega) (by omega)
  have q4 := quo_u den.natAbs (Nat.gcd an.natAbs den.natAbs) (by omega) (by omega)
  rw [g_magnitude an (by unfold i64B; omega), g_magnitude ad (by unfold i64B; omega), g_magnitude num (by unfold i64B; omega), g_magnitude den (by unfold i64B; omega)]
  simp only [Option.bind_some]
  rw [g_common _ _ (by omega) (by omega), g_common _ _ (by omega) (by omega)]
  simp only [Option.bind_some, q1, q2, q3, q4]
  generalize an.natAbs / Nat.gcd an.natAbs den.natAbs = w at *
  generalize num.natAbs / Nat.gcd num.natAbs ad.natAbs = y at *
  generalize ad.natAbs / Nat.gcd num.natAbs ad.natAbs = x at *
  generalize den.natAbs / Nat.gcd an.natAbs den.natAbs = z at *
  rw [g_Mul64 w y (by omega) (by omega), Option.bind_some, g_Mul64 x z (by omega) (by omega), Option.bind_some]
  have m2 : x * z ≤ 1000000 * 1000000000000 := Nat.mul_le_mul b3 b4
  have m3 : 0 < x * z := Nat.mul_pos d1 d2
  have hneg : (!((decide (an < 0)) == (!((decide (num < 0)) == (decide (den < 0)))))) = ((decide (an < 0)) != ((decide (num < 0)) != (decide (den < 0)))) := rfl
  simp only [hneg]
  generalize ((decide (an < 0)) != ((decide (num < 0)) != (decide (den < 0)))) = neg at *
  rw [← hr, ← Rt.red_fit neg (w * y) (x * z) (by omega)]
  generalize w * y = N at *
  generalize x * z = M at *
  have e1 : M / 18446744073709551616 = 0 := Nat.div_eq_of_lt (by omega)
  have e2 : M % 18446744073709551616 = M := Nat.mod_eq_of_lt (by omega)
  by_cases hN : N < 18446744073709551616
  · have e3 : N / 18446744073709551616 = 0 := Nat.div_eq_of_lt hN
    have e4 : N % 18446744073709551616 = N := Nat.mod_eq_of_lt hN
    rw [e1, e2, e3, e4]
    simp only [Int.natCast_zero, bne_self_eq_false, Bool.false_eq_true, if_false, bindF_l]
    rw [g_reduced neg N M (by omega) (by omega) (by omega)]
    rfl
  · have e3 : (((N / 18446744073709551616 : Nat) : Int) != 0) = true := by simp; omega
    simp only [e3, if_true, bindF_l]
    unfold Rt.red
    rw [hc, Nat.div_one, if_pos (.inl (by omega))]
    rfl
end Go.Proofs.YtdfokoapenhalaaDoor.Ab
