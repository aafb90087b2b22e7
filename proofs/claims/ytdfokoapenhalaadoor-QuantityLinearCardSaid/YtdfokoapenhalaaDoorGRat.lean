/- What the functions on ratios compute, as rational numbers. -/
import Derived.Test.YtdfokoapenhalaaDoorGLoop
import Derived.Test.YtdfokoapenhalaaDoorDq1
import Derived.Test.YtdfokoapenhalaaDoorDq2
import Derived.Test.YtdfokoapenhalaaDoorNetPl
namespace Go.Proofs.YtdfokoapenhalaaDoor.Ab
open Go
abbrev i64B (n : Int) : Prop := -9223372036854775808 ≤ n ∧ n ≤ 9223372036854775807
theorem g_magnitude (n : Int) (h : i64B n) : g_ratio_magnitude n = some (n.natAbs : Int) := by
  unfold g_ratio_magnitude
  unfold i64B at h
  split
  · rename_i h0
    have h0 := of_decide_eq_true h0
    rw [show IntKind.u64.wrap n = n + 18446744073709551616 by rw [IntKind.wrap_u64]; omega]
    rw [IntKind.wrap_u64]; congr 1; omega
  · rename_i h0
    have h0 : ¬ n < 0 := fun h => h0 (decide_eq_true h)
    rw [IntKind.wrap_u64]; congr 1; omega
theorem g_common (a b : Nat) (ha : (a : Int) ≤ 18446744073709551615) (hb : (b : Int) ≤ 18446744073709551615) : g_ratio_common [(a : Int), (b : Int)] = some ((Nat.gcd a b : Nat) : Int) := by
  unfold g_ratio_common
  have key : ∀ body, (∀ s : Int × Int, body s = (if (decide (s.2 < (([(a : Int), (b : Int)] : List Int).length : Int))) = true then
      (getI [(a : Int), (b : Int)] s.2).bind fun x => loopO (σ := Int × Int) (fun t => if (t.2 != 0) = true then (remO t.1 t.2).bind fun r => some (.inl (t.2, r)) else some (.inr (.inl (t.1, IntKind.i64.wrap (s.2 + 1))))) (s.1, x)
      else some (.inr (.inl s.1)))) → loopO (ρ := Int ⊕ Int) body (0, 0) = some (.inl (Nat.gcd a b : Nat)) := by
    intro body hb'
    refine loopO_of (m := 3) ?_ (by unfold rounds; omega)
    have e0 := euclidO (fun g => (Sum.inl (g, IntKind.i64.wrap (0 + 1)) : (Int × Int) ⊕ (Int ⊕ Int))) 0 a ha
    have e1 := euclidO (fun g => (Sum.inl (g, IntKind.i64.wrap (1 + 1)) : (Int × Int) ⊕ (Int ⊕ Int))) a b hb
    have w1 : IntKind.i64.wrap (0 + 1) = 1 := by decide
    have w2 : IntKind.i64.wrap (1 + 1) = 2 := by decide
    have r0 : body (0, 0) = some (.inl ((a : Int), 1)) := by
      rw [hb', if_pos (by simp), show getI [(a : Int), (b : Int)] 0 = some (a : Int) from rfl, Option.bind_some]
      rw [w1] at e0
      simp only [w1]
      rw [show (0 : Int) = ((0 : Nat) : Int) from rfl]
      refine e0.trans ?_
      rw [Nat.gcd_zero_left]
    have r1 : body ((a : Int), 1) = some (.inl ((Nat.gcd a b : Nat), 2)) := by
      rw [hb', if_pos (by simp), show getI [(a : Int), (b : Int)] 1 = some (b : Int) from rfl, Option.bind_some]
      rw [w2] at e1
      simp only [w2]
      exact e1
    have r2 : body ((Nat.gcd a b : Nat), 2) = some (.inr (.inl (Nat.gcd a b : Nat))) := by
      rw [hb', if_neg (by simp)]
    simp only [loopN, r0, r1, r2]
  rw [key _ (fun s => rfl)]
  rfl
theorem g_Valid (r : D.Ratio) (h : i64B r.Num) (h' : i64B r.Den) : g_ratio_Valid r = some (Rt.ok r.Num r.Den) := by
  obtain ⟨n, d⟩ := r
  unfold i64B at h h'
  simp only at h h'
  unfold g_ratio_Valid
  simp only [g_magnitude n h, g_magnitude d h', Option.bind_some]
  rw [g_common _ _ (by omega) (by omega)]
  simp only [Option.bind_some]
  by_cases h1 : 0 < d
  · by_cases h2 : d ≤ 1000000
    · by_cases h3 : (n.natAbs : Int) ≤ 1000000000000
      · simp only [h1, h2, h3, decide_true, if_true]
        unfold Rt.ok
        congr 1
        rw [Bool.eq_iff_iff, beq_iff_eq, decide_eq_true_iff]
        constructor
        · intro h; exact ⟨by omega, h2, by omega, by omega⟩
        · rintro ⟨_, _, _, h⟩; omega
      · simp only [h1, h2, h3, decide_true, if_true, decide_false, Bool.false_eq_true, if_false]
        congr 1; symm; unfold Rt.ok; exact decide_eq_false (by omega)
    · simp only [h1, h2, decide_true, if_true, decide_false, Bool.false_eq_true, if_false]
      congr 1; symm; unfold Rt.ok; exact decide_eq_false (by omega)
  · simp only [h1, decide_false, Bool.false_eq_true, if_false]
    congr 1; symm; unfold Rt.ok; exact decide_eq_false (by omega)
/-- A triple as a ratio and an error. -/
def asR (t : Int × Int × Int) : D.Ratio × Int := (⟨t.1, t.2.1⟩, t.2.2)
theorem g_reduced (neg : Bool) (n d : Nat) (hd : d ≠ 0) (h1 : (n : Int) ≤ 18446744073709551615) (h2 : (d : Int) ≤ 18446744073709551615) : g_ratio_reduced neg n d = some (asR (Rt.red neg n d)) := by
  have hg : 0 < Nat.gcd n d := Nat.gcd_pos_of_pos_right _ (Nat.pos_of_ne_zero hd)
  have q1 : quoO .u64 (n : Int) (Nat.gcd n d : Nat) = some ((n / Nat.gcd n d : Nat) : Int) := by
    unfold quoO; rw [if_neg (by omega), Int.tdiv_eq_ediv_of_nonneg (by omega), ← Int.natCast_ediv]
    have := Nat.div_le_self n (Nat.gcd n d)
    generalize n / Nat.gcd n d = q at this ⊢
    rw [wrapU _ (by omega) (by omega)]
  have q2 : quoO .u64 (d : Int) (Nat.gcd n d : Nat) = some ((d / Nat.gcd n d : Nat) : Int) := by
    unfold quoO; rw [if_neg (by omega), Int.tdiv_eq_ediv_of_nonneg (by omega), ← Int.natCast_ediv]
    have := Nat.div_le_self d (Nat.gcd n d)
    generalize d / Nat.gcd n d = q at this ⊢
    rw [wrapU _ (by omega) (by omega)]
  unfold g_ratio_reduced
  rw [g_common _ _ h1 h2]
  simp only [Option.bind_some, q1, q2]
  unfold Rt.red asR
  generalize n / Nat.gcd n d = q
  generalize d / Nat.gcd n d = r
  by_cases c1 : 1000000000000 < q
  · have : decide ((q : Int) > 1000000000000) = true := decide_eq_true (by omega)
    simp only [this, if_true, bindF_l, c1, true_or]
  · have : decide ((q : Int) > 1000000000000) = false := decide_eq_false (by omega)
    simp only [this, Bool.false_eq_true, if_false, bindF_l]
    by_cases c2 : 1000000 < r
    · have : decide ((r : Int) > 1000000) = true := decide_eq_true (by omega)
      simp only [this, if_true, c2, or_true]
    · have : decide ((r : Int) > 1000000) = false := decide_eq_false (by omega)
      simp only [this, Bool.false_eq_true, if_false, c1, c2, or_self]
      rw [wrapI (q : Int) (by omega) (by omega), wrapI (r : Int) (by omega) (by omega)]
      cases neg
      · simp
      · simp only [if_true]
        rw [wrapI _ (by omega) (by omega)]
        simp
theorem g_Make (n d : Int) (hn : i64B n) (hd : i64B d) : g_ratio_Make n d = some (asR (Rt.make n d)) := by
  unfold g_ratio_Make
  by_cases h0 : d = 0
  · subst h0; rfl
  · have : (d == 0) = false := by simpa using h0
    unfold i64B at hn hd
    simp only [this, Bool.false_eq_true, if_false, g_magnitude n hn, g_magnitude d hd, Option.bind_some]
    rw [g_reduced _ _ _ (by omega) (by omega) (by omega), Rt.make_red h0]
    rfl
theorem g_Add (a b : D.Ratio) (h1 : i64B a.Num) (h2 : i64B a.Den) (h3 : i64B b.Num) (h4 : i64B b.Den) : g_ratio_Add a b = some (asR (Rt.add a.Num a.Den b.Num b.Den)) := by
  unfold g_ratio_Add g_ratio_on_Add_1
  rw [g_Valid a h1 h2, g_Valid b h3 h4]
  simp only [Option.bind_some]
  cases ha : Rt.ok a.Num a.Den
  · simp [Rt.add, ha, asR]
  · cases hb : Rt.ok b.Num b.Den
    · simp [Rt.add, ha, hb, asR]
    · rw [Rt.add_make ha hb]
      obtain ⟨x1, x2, x3, _⟩ := Rt.ok_iff.1 ha
      obtain ⟨y1, y2, y3, _⟩ := Rt.ok_iff.1 hb
      have m1 := Rt.mul_bd a.Num b.Den x3 y1 y2 rfl rfl
      have m2 := Rt.mul_bd b.Num a.Den y3 x1 x2 rfl rfl
      have m3 := Rt.mul_bd a.Den b.Den (by omega) y1 y2 rfl rfl
      unfold g_ratio_Add_1
      simp only [Bool.not_true, Bool.false_eq_true, if_false, bindF_l]
      rw [wrapI (a.Num * b.Den) (by omega) (by omega), wrapI (b.Num * a.Den) (by omega) (by omega), wrapI (a.Den * b.Den) (by omega) (by omega), wrapI (a.Num * b.Den + b.Num * a.Den) (by omega) (by omega)]
      rw [g_Make _ _ (by unfold i64B; omega) (by unfold i64B; omega)]
      rfl
theorem g_Cmp (a b : D.Ratio) (h1 : i64B a.Num) (h2 : i64B a.Den) (h3 : i64B b.Num) (h4 : i64B b.Den) : g_ratio_Cmp a b = some (Rt.cmp a.Num a.Den b.Num b.Den) := by
  unfold g_ratio_Cmp
  rw [g_Valid a h1 h2, g_Valid b h3 h4]
  simp only [Option.bind_some]
  cases ha : Rt.ok a.Num a.Den
  · simp [Rt.cmp, ha]
  · cases hb : Rt.ok b.Num b.Den
    · simp [Rt.cmp, ha, hb]
    · obtain ⟨x1, x2, x3, _⟩ := Rt.ok_iff.1 ha
      obtain ⟨y1, y2, y3, _⟩ := Rt.ok_iff.1 hb
      have m1 := Rt.mul_bd a.Num b.Den x3 y1 y2 rfl rfl
      have m2 := Rt.mul_bd b.Num a.Den y3 x1 x2 rfl rfl
      have l1 := Rt.lt_iff ha hb
      have l2 := Rt.lt_iff hb ha
      unfold Rt.cmp
      simp only [Bool.not_true, Bool.false_eq_true, if_false, bindF_l, ha, hb, and_self, if_true, l1, l2]
      rw [wrapI (a.Num * b.Den) (by omega) (by omega), wrapI (b.Num * a.Den) (by omega) (by omega), wrapI (a.Num * b.Den - b.Num * a.Den) (by omega) (by omega)]
      generalize a.Num * b.Den = p
      generalize b.Num * a.Den = q
      by_cases c1 : p - q < 0
      · simp [c1]
      · by_cases c2 : q - p < 0
        · have : p - q > 0 := by omega
          simp only [c1, c2, this, decide_true, decide_false, if_true, if_false, Bool.false_eq_true]
        · have : ¬ p - q > 0 := by omega
          simp only [c1, c2, this, decide_false, if_false, Bool.false_eq_true]
end Go.Proofs.YtdfokoapenhalaaDoor.Ab
