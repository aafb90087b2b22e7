/- What quantity's exact computes: a value times a factor over another one, as far as it fits. -/
import Derived.Test.YtdfokoapenhalaaDoorGProd
import Derived.Test.YtdfokoapenhalaaDoorGRatQ
import Derived.Test.YtdfokoapenhalaaDoorGRange
import Derived.Test.YtdfokoapenhalaaDoorDq3
namespace Go.Proofs.YtdfokoapenhalaaDoor.Ab
open Go
theorem g_Mul (a b : D.Ratio) (h1 : i64B a.Num) (h2 : i64B a.Den) (h3 : i64B b.Num) (h4 : i64B b.Den) :
    g_ratio_Mul a b = some (asR (if Rt.ok a.Num a.Den = true ∧ Rt.ok b.Num b.Den = true then Rt.fit (Rt.val a.Num a.Den * Rt.val b.Num b.Den) else (0, 0, 1))) := by
  unfold g_ratio_Mul g_ratio_on_Mul_1
  rw [g_Valid a h1 h2, g_Valid b h3 h4]
  simp only [Option.bind_some]
  cases ha : Rt.ok a.Num a.Den
  · simp [asR]
  · cases hb : Rt.ok b.Num b.Den
    · simp [asR]
    · obtain ⟨b1, b2, b3, b4⟩ := Rt.ok_iff.1 hb
      unfold g_ratio_Mul_1
      simp only [Bool.not_true, Bool.false_eq_true, if_false, bindF_l, and_self, if_true]
      rw [g_product a b.Num b.Den ha b3 (by omega) (by omega) b4]
      have e : Rat.divInt b.Num b.Den = Rt.val b.Num b.Den := by
        unfold Rt.val
        rw [← Rat.divInt_ofNat, show ((b.Den.natAbs : Nat) : Int) = b.Den by omega]
      rw [e]; rfl
theorem g_divisor (a b : Int) (ha : a.natAbs ≤ 1000000000000) (hb : 1 ≤ b) (hb' : b ≤ 1000000000000) : g_quantity_divisor a b = some ((Nat.gcd a.natAbs b.natAbs : Nat) : Int) := by
  unfold g_quantity_divisor
  have r0 : remO a b = some (a.tmod b) := by unfold remO; rw [if_neg (by omega)]
  rw [r0, Option.bind_some]
  obtain ⟨e, he, hq⟩ := loopO_rule (ρ := Int ⊕ Int) (body := fun s : Int × Int => if (s.1 != 0) = true then (remO s.2 s.1).bind fun x => some (.inl (x, s.1)) else some (.inr (.inl s.2)))
    (fun k s => s.1.natAbs ≤ k ∧ s.1.natAbs < s.2.natAbs ∧ s.2.natAbs ≤ 1000000000000 ∧ Nat.gcd s.1.natAbs s.2.natAbs = Nat.gcd a.natAbs b.natAbs)
    (fun r => ∃ e : Int, r = .inl e ∧ e.natAbs = Nat.gcd a.natAbs b.natAbs ∧ e.natAbs ≤ 1000000000000)
    (fun k s ⟨h1, h2, h3, h4⟩ => by
      by_cases h0 : s.1 = 0
      · right
        refine ⟨.inl s.2, ?_, s.2, rfl, ?_, h3⟩
        · simp [h0]
        · rw [← h4, h0]; simp
      · left
        have c : (s.1 != 0) = true := by simpa using h0
        have r1 : remO s.2 s.1 = some (s.2.tmod s.1) := by unfold remO; rw [if_neg h0]
        have hm : (s.2.tmod s.1).natAbs = s.2.natAbs % s.1.natAbs := Int.natAbs_tmod _ _
        have hl := Nat.mod_lt s.2.natAbs (show s.1.natAbs > 0 by omega)
        refine ⟨(s.2.tmod s.1, s.1), s.1.natAbs - 1, ?_, by omega, ?_, ?_, by show s.1.natAbs ≤ _; omega, ?_⟩
        · simp only [c, if_true, r1, Option.bind_some]
        · show (s.2.tmod s.1).natAbs ≤ _; rw [hm]; omega
        · show (s.2.tmod s.1).natAbs < _; rw [hm]; exact hl
        · show Nat.gcd (s.2.tmod s.1).natAbs s.1.natAbs = _
          rw [hm, ← h4, Nat.gcd_comm s.1.natAbs, ← Nat.gcd_rec, Nat.gcd_comm])
    (k := (a.tmod b).natAbs) (s := (a.tmod b, b)) (by
      have hm : (a.tmod b).natAbs = a.natAbs % b.natAbs := Int.natAbs_tmod _ _
      have hl := Nat.mod_lt a.natAbs (show b.natAbs > 0 by omega)
      refine ⟨Nat.le_refl _, by rw [hm]; exact hl, by show b.natAbs ≤ _; omega, ?_⟩
      show Nat.gcd (a.tmod b).natAbs b.natAbs = _
      rw [hm, ← Nat.gcd_rec, Nat.gcd_comm]) (by
      have hm : (a.tmod b).natAbs = a.natAbs % b.natAbs := Int.natAbs_tmod _ _
      have hl := Nat.mod_lt a.natAbs (show b.natAbs > 0 by omega)
      omega)
  obtain ⟨e, rfl, h5, h6⟩ := hq
  rw [he, bindF_l]
  rw [wrapI (0 - e) (by omega) (by omega)]
  congr 1
  rw [← h5]; split <;> omega
/-- Cancelling each of some numbers against each of others. -/
def prodL : List Int → Int
  | [] => 1
  | x :: l => x * prodL l
theorem prodL_set : ∀ (l : List Int) (i : Nat) (g x : Int), l[i]? = some (g * x) → prodL l = g * prodL (l.set i x)
  | [], i, g, x, h => by simp at h
  | y :: l, 0, g, x, h => by simp at h; subst h; show g * x * prodL l = g * (x * prodL l); rw [Int.mul_assoc]
  | y :: l, i + 1, g, x, h => by
    have := prodL_set l i g x (by simpa using h)
    show y * prodL l = g * (y * prodL (l.set i x))
    rw [this]; grind
structure Canc (u v : List Int) (i j : Nat) (U V : List Int) : Prop where
  lu : U.length = 3
  lv : V.length = 3
  bu : ∀ (k : Nat) (x : Int), U[k]? = some x → x.natAbs ≤ 1000000000000 ∧ (1 ≤ k → 1 ≤ x)
  bv : ∀ (k : Nat) (x : Int), V[k]? = some x → 1 ≤ x ∧ x ≤ 1000000000000
  eq : prodL U * prodL v = prodL u * prodL V
  co : ∀ (a b : Nat) (x y : Int), U[a]? = some x → V[b]? = some y → (a < i ∨ a = i ∧ b < j) → Nat.gcd x.natAbs y.natAbs = 1
theorem Canc.step {u v U V : List Int} {i j : Nat} (h : Canc u v i j U V) {x y : Int} (hx : U[i]? = some x) (hy : V[j]? = some y) :
    ∃ x' y' : Int, x = (Nat.gcd x.natAbs y.natAbs : Nat) * x' ∧ y = (Nat.gcd x.natAbs y.natAbs : Nat) * y' ∧ Canc u v i (j + 1) (U.set i x') (V.set j y') := by
  obtain ⟨bx, bx'⟩ := h.bu i x hx
  obtain ⟨by1, by2⟩ := h.bv j y hy
  have g0 : 0 < Nat.gcd x.natAbs y.natAbs := Nat.gcd_pos_of_pos_right _ (by omega)
  obtain ⟨x', ex⟩ : ((Nat.gcd x.natAbs y.natAbs : Nat) : Int) ∣ x := Int.ofNat_dvd_left.2 (Nat.gcd_dvd_left _ _)
  obtain ⟨y', ey⟩ : ((Nat.gcd x.natAbs y.natAbs : Nat) : Int) ∣ y := Int.ofNat_dvd_left.2 (Nat.gcd_dvd_right _ _)
  have ax : x.natAbs = Nat.gcd x.natAbs y.natAbs * x'.natAbs := by have := congrArg Int.natAbs ex; rwa [Int.natAbs_mul, Int.natAbs_natCast] at this
  have ay : y.natAbs = Nat.gcd x.natAbs y.natAbs * y'.natAbs := by have := congrArg Int.natAbs ey; rwa [Int.natAbs_mul, Int.natAbs_natCast] at this
  have hco : Nat.gcd x'.natAbs y'.natAbs = 1 := by
    have := Nat.coprime_div_gcd_div_gcd g0
    rw [Nat.div_eq_of_eq_mul_right g0 ax, Nat.div_eq_of_eq_mul_right g0 ay] at this
    exact this
  have lx : x'.natAbs ≤ x.natAbs := by rw [ax]; exact Nat.le_mul_of_pos_left _ g0
  have ly : y'.natAbs ≤ y.natAbs := by rw [ay]; exact Nat.le_mul_of_pos_left _ g0
  have py : 0 < y' := by
    rcases Int.lt_or_le 0 y' with h | h
    · exact h
    · have := Int.mul_nonneg (show (0 : Int) ≤ (Nat.gcd x.natAbs y.natAbs : Nat) by omega) (show 0 ≤ -y' by omega)
      rw [Int.mul_neg, ← ey] at this; omega
  have px : 0 < x → 0 < x' := fun hp => by
    rcases Int.lt_or_le 0 x' with h | h
    · exact h
    · have := Int.mul_nonneg (show (0 : Int) ≤ (Nat.gcd x.natAbs y.natAbs : Nat) by omega) (show 0 ≤ -x' by omega)
      rw [Int.mul_neg, ← ex] at this; omega
  generalize hg : Nat.gcd x.natAbs y.natAbs = g at *
  refine ⟨x', y', ex, ey, ?_⟩
  have e1 := prodL_set U i g x' (by rw [hx]; exact congrArg some ex)
  have e2 := prodL_set V j g y' (by rw [hy]; exact congrArg some ey)
  have hiU : i < U.length := (List.getElem?_eq_some_iff.1 hx).1
  have hjV : j < V.length := (List.getElem?_eq_some_iff.1 hy).1
  refine ⟨by rw [List.length_set]; exact h.lu, by rw [List.length_set]; exact h.lv, fun k z hz => ?_, fun k z hz => ?_, ?_, fun a b z w hz hw hd => ?_⟩
  · by_cases e : i = k
    · subst e
      rw [List.getElem?_set_self hiU] at hz; cases hz
      exact ⟨by omega, fun hk => px (by have := bx' hk; omega)⟩
    · rw [List.getElem?_set_ne e] at hz
      exact h.bu k z hz
  · by_cases e : j = k
    · subst e
      rw [List.getElem?_set_self hjV] at hz; cases hz
      omega
    · rw [List.getElem?_set_ne e] at hz
      exact h.bv k z hz
  · have := h.eq
    rw [e1, e2] at this
    have hg0 : (g : Int) ≠ 0 := by omega
    refine Int.eq_of_mul_eq_mul_left hg0 ?_
    grind
  · have dz : ∀ z0, U[a]? = some z0 → z.natAbs ∣ z0.natAbs := fun z0 h0 => by
      by_cases e : i = a
      · subst e
        rw [List.getElem?_set_self hiU] at hz; cases hz
        rw [hx] at h0; cases h0
        exact ⟨g, by rw [Nat.mul_comm]; exact ax⟩
      · rw [List.getElem?_set_ne e] at hz
        rw [hz] at h0; cases h0; exact Nat.dvd_refl _
    have dw : ∀ w0, V[b]? = some w0 → w.natAbs ∣ w0.natAbs := fun w0 h0 => by
      by_cases e : j = b
      · subst e
        rw [List.getElem?_set_self hjV] at hw; cases hw
        rw [hy] at h0; cases h0
        exact ⟨g, by rw [Nat.mul_comm]; exact ay⟩
      · rw [List.getElem?_set_ne e] at hw
        rw [hw] at h0; cases h0; exact Nat.dvd_refl _
    have haU : a < U.length := by have := (List.getElem?_eq_some_iff.1 hz).1; rwa [List.length_set] at this
    have hbV : b < V.length := by have := (List.getElem?_eq_some_iff.1 hw).1; rwa [List.length_set] at this
    by_cases hd' : a < i ∨ a = i ∧ b < j
    · have := h.co a b _ _ (List.getElem?_eq_getElem haU) (List.getElem?_eq_getElem hbV) hd'
      exact Nat.Coprime.coprime_dvd_left (dz _ (List.getElem?_eq_getElem haU)) (Nat.Coprime.coprime_dvd_right (dw _ (List.getElem?_eq_getElem hbV)) this)
    · obtain ⟨rfl, rfl⟩ : a = i ∧ b = j := by omega
      rw [List.getElem?_set_self haU] at hz
      rw [List.getElem?_set_self hbV] at hw
      cases hz; cases hw
      exact hco
theorem Canc.row {u v U V : List Int} {i : Nat} (h : Canc u v i 3 U V) : Canc u v (i + 1) 0 U V := ⟨h.lu, h.lv, h.bu, h.bv, h.eq, fun a b x y hx hy hd => h.co a b x y hx hy (by
  have : b < V.length := (List.getElem?_eq_some_iff.1 hy).1
  have := h.lv
  omega)⟩
/-- The first two loops: all is cancelled. -/
theorem cancel_loop {ρ : Type} (u v : List Int) (h0 : Canc u v 0 0 u v) (f : List Int × List Int → ρ) (n3 : Int) (hn3 : n3 = 3) :
    ∃ U V, Canc u v 3 0 U V ∧ loopO (σ := List Int × List Int × Int) (ρ := (List Int × List Int) ⊕ ρ) (fun s =>
  if (decide (s.2.2 < n3)) = true then
  loopO (σ := List Int × List Int × Int) (fun t =>
  if (decide (t.2.2 < (s.2.1.length : Int))) = true then
  (getI t.1 s.2.2).bind fun x1 =>
  (getI t.2.1 t.2.2).bind fun x2 =>
  (g_quantity_divisor x1 x2).bind fun x3 =>
  (getI t.1 s.2.2).bind fun x4 =>
  (quoO .i64 x4 x3).bind fun x5 =>
  (getI t.1 s.2.2).bind fun _ =>
  (getI t.2.1 t.2.2).bind fun x7 =>
  (quoO .i64 x7 x3).bind fun x8 =>
  (getI t.2.1 t.2.2).bind fun _ =>
  some (.inl ((setI t.1 s.2.2 x5), (setI t.2.1 t.2.2 x8), (IntKind.i64.wrap (t.2.2 + 1))))
  else
  some (.inr (.inl (t.1, t.2.1, (IntKind.i64.wrap (s.2.2 + 1)))))) (s.1, s.2.1, 0)
  else
  some (.inr (.inl (s.1, s.2.1)))) (u, v, 0) = some (.inl (U, V)) := by
  subst hn3
  obtain ⟨r, hr, U, V, hc, rfl⟩ := range_rule (ρ := (List Int × List Int) ⊕ ρ) (body := fun (s : List Int × List Int × Int) =>
  if (decide (s.2.2 < 3)) = true then
  loopO (σ := List Int × List Int × Int) (fun t =>
  if (decide (t.2.2 < (s.2.1.length : Int))) = true then
  (getI t.1 s.2.2).bind fun x1 =>
  (getI t.2.1 t.2.2).bind fun x2 =>
  (g_quantity_divisor x1 x2).bind fun x3 =>
  (getI t.1 s.2.2).bind fun x4 =>
  (quoO .i64 x4 x3).bind fun x5 =>
  (getI t.1 s.2.2).bind fun _ =>
  (getI t.2.1 t.2.2).bind fun x7 =>
  (quoO .i64 x7 x3).bind fun x8 =>
  (getI t.2.1 t.2.2).bind fun _ =>
  some (.inl ((setI t.1 s.2.2 x5), (setI t.2.1 t.2.2 x8), (IntKind.i64.wrap (t.2.2 + 1))))
  else
  some (.inr (.inl (t.1, t.2.1, (IntKind.i64.wrap (s.2.2 + 1)))))) (s.1, s.2.1, 0)
  else
  some (.inr (.inl (s.1, s.2.1)))) (fun s => s.2.2) 3 (fun i s => Canc u v i 0 s.1 s.2.1)
    (fun r => ∃ U V, Canc u v 3 0 U V ∧ r = .inl (U, V))
    (fun i s hi hs hJ => by
      left
      obtain ⟨U0, V0, n0⟩ := s
      simp only at hs hJ
      subst hs
      have c0 : decide ((i : Int) < 3) = true := decide_eq_true (by omega)
      simp only [c0, if_true]
      obtain ⟨r, hr, U, V, hc, rfl⟩ := range_rule (ρ := (List Int × List Int × Int) ⊕ ((List Int × List Int) ⊕ ρ)) (body := fun (t : List Int × List Int × Int) =>
        if (decide (t.2.2 < (V0.length : Int))) = true then
        (getI t.1 (i : Int)).bind fun x1 =>
        (getI t.2.1 t.2.2).bind fun x2 =>
        (g_quantity_divisor x1 x2).bind fun x3 =>
        (getI t.1 (i : Int)).bind fun x4 =>
        (quoO .i64 x4 x3).bind fun x5 =>
        (getI t.1 (i : Int)).bind fun _ =>
        (getI t.2.1 t.2.2).bind fun x7 =>
        (quoO .i64 x7 x3).bind fun x8 =>
        (getI t.2.1 t.2.2).bind fun _ =>
        some (.inl ((setI t.1 (i : Int) x5), (setI t.2.1 t.2.2 x8), (IntKind.i64.wrap (t.2.2 + 1))))
        else
        some (.inr (.inl (t.1, t.2.1, (IntKind.i64.wrap ((i : Int) + 1)))))) (fun t => t.2.2) 3 (fun j t => Canc u v i j t.1 t.2.1)
        (fun r => ∃ U V, Canc u v (i + 1) 0 U V ∧ r = .inl (U, V, ((i + 1 : Nat) : Int)))
        (fun j t hj ht hK => by
          left
          obtain ⟨U, V, n1⟩ := t
          simp only at ht hK
          subst ht
          have c1 : decide ((j : Int) < (V0.length : Int)) = true := decide_eq_true (by have := hJ.lv; omega)
          have hiU : i < U.length := by have := hK.lu; omega
          have hjV : j < V.length := by have := hK.lv; omega
          have gx := List.getElem?_eq_getElem hiU
          have gy := List.getElem?_eq_getElem hjV
          generalize U[i] = x at gx
          generalize V[j] = y at gy
          obtain ⟨x', y', ex, ey, hc⟩ := hK.step gx gy
          obtain ⟨bx, _⟩ := hK.bu i x gx
          obtain ⟨by1, by2⟩ := hK.bv j y gy
          have g0 : 0 < Nat.gcd x.natAbs y.natAbs := Nat.gcd_pos_of_pos_right _ (by omega)
          have hd := g_divisor x y bx by1 by2
          generalize hg : Nat.gcd x.natAbs y.natAbs = g at *
          have q1 : quoO .i64 x g = some x' := by
            have hx' : x'.natAbs ≤ 1000000000000 := by
              have : x.natAbs = g * x'.natAbs := by rw [ex, Int.natAbs_mul, Int.natAbs_natCast]
              have := Nat.le_mul_of_pos_left x'.natAbs g0
              omega
            unfold quoO; rw [if_neg (by omega)]
            conv => lhs; rw [ex]
            rw [Int.mul_tdiv_cancel_left _ (by omega), wrapI _ (by omega) (by omega)]
          have q2 : quoO .i64 y g = some y' := by
            have hy' : y'.natAbs ≤ 1000000000000 := by
              have : y.natAbs = g * y'.natAbs := by rw [ey, Int.natAbs_mul, Int.natAbs_natCast]
              have := Nat.le_mul_of_pos_left y'.natAbs g0
              omega
            unfold quoO; rw [if_neg (by omega)]
            conv => lhs; rw [ey]
            rw [Int.mul_tdiv_cancel_left _ (by omega), wrapI _ (by omega) (by omega)]
          refine ⟨(U.set i x', V.set j y', ((j + 1 : Nat) : Int)), ?_, rfl, hc⟩
          simp only [c1, if_true, getI_nat, gx, gy, Option.bind_some, hd, q1, q2, setI_nat]
          rw [inc _ (by omega)])
        (fun t ht hK => by
          obtain ⟨U, V, n1⟩ := t
          simp only at ht hK
          subst ht
          have c1 : decide (((3 : Nat) : Int) < (V0.length : Int)) = false := decide_eq_false (by have := hJ.lv; omega)
          refine ⟨.inl (U, V, ((i + 1 : Nat) : Int)), ?_, U, V, hK.row, rfl⟩
          simp only [c1, Bool.false_eq_true, if_false]
          rw [inc _ (by omega)])
        (s := (U0, V0, 0)) (i := 0) rfl hJ (by omega) (by omega)
      exact ⟨(U, V, ((i + 1 : Nat) : Int)), hr, rfl, hc⟩)
    (fun s hs hJ => by
      obtain ⟨U, V, n⟩ := s
      simp only at hs hJ
      subst hs
      exact ⟨.inl (U, V), rfl, U, V, hJ, rfl⟩)
    (s := (u, v, 0)) (i := 0) rfl h0 (by omega) (by omega)
  exact ⟨U, V, hc, hr⟩
theorem prodL_append : ∀ a b : List Int, prodL (a ++ b) = prodL a * prodL b
  | [], b => by show prodL b = 1 * prodL b; rw [Int.one_mul]
  | x :: a, b => by show x * prodL (a ++ b) = x * prodL a * prodL b; rw [prodL_append a b, Int.mul_assoc]
theorem prodL_take {l : List Int} {k : Nat} {x : Int} (h : l[k]? = some x) : prodL (l.take (k + 1)) = prodL (l.take k) * x := by
  rw [List.take_add_one, h, prodL_append]
  show _ * (x * 1) = _; rw [Int.mul_one]
theorem prodL_pos : ∀ {l : List Int}, (∀ x ∈ l, 1 ≤ x) → 1 ≤ prodL l
  | [], _ => Int.le_refl 1
  | x :: l, h => by
    have h1 := h x (by simp)
    have h2 := prodL_pos (l := l) fun y hy => h y (by simp [hy])
    have := Int.mul_le_mul h1 h2 (by omega) (by omega)
    show 1 ≤ x * prodL l
    omega
theorem prodL_ge {l : List Int} (k : Nat) (h : ∀ (i : Nat) (x : Int), l[i]? = some x → k ≤ i → 1 ≤ x) : (prodL (l.take k)).natAbs ≤ (prodL l).natAbs := by
  have e := prodL_append (l.take k) (l.drop k)
  rw [List.take_append_drop] at e
  have hp := prodL_pos (l := l.drop k) fun x hx => by
    obtain ⟨i, hi, rfl⟩ := List.getElem_of_mem hx
    rw [List.getElem_drop]
    exact h (k + i) _ (List.getElem?_eq_getElem _) (by omega)
  rw [e, Int.natAbs_mul]
  exact Nat.le_mul_of_pos_right _ (by omega)
theorem fits_int (n : Int) : Rt.fits (mkRat n 1) = decide (n.natAbs ≤ 1000000000000) := by
  rw [Rat.mkRat_one]; unfold Rt.fits
  rw [Rat.num_intCast, Rat.den_intCast]
  simp
theorem one_over (n : Nat) (h : n ≠ 0) : (mkRat 1 n).num = 1 ∧ (mkRat 1 n).den = n := by
  rw [← Rat.normalize_eq_mkRat h, Rat.normalize_eq h]
  simp
theorem mul_int (p x : Int) (hp : p.natAbs ≤ 1000000000000) (hx : x.natAbs ≤ 1000000000000) : g_ratio_Mul ⟨p, 1⟩ ⟨x, 1⟩ = some (if (p * x).natAbs ≤ 1000000000000 then (⟨p * x, 1⟩, 0) else (⟨0, 0⟩, 2)) := by
  have o1 : Rt.ok p 1 = true := Rt.ok_iff.2 ⟨by omega, by omega, hp, by simp⟩
  have o2 : Rt.ok x 1 = true := Rt.ok_iff.2 ⟨by omega, by omega, hx, by simp⟩
  rw [g_Mul _ _ (by unfold i64B; show _ ≤ p ∧ p ≤ _; omega) (by unfold i64B; simp) (by unfold i64B; show _ ≤ x ∧ x ≤ _; omega) (by unfold i64B; simp), if_pos ⟨o1, o2⟩]
  have e : Rt.val p 1 * Rt.val x 1 = mkRat (p * x) 1 := by unfold Rt.val; rw [Rat.mkRat_mul_mkRat]; rfl
  simp only [e]
  rw [asR_fit, fits_int]
  simp only [decide_eq_true_eq, Rat.mkRat_one]
  unfold ofQ
  rw [Rat.num_intCast, Rat.den_intCast]; rfl
theorem mul_den (q y : Int) (h1 : 1 ≤ q) (h2 : q ≤ 1000000) (h3 : 1 ≤ y) (h4 : y ≤ 1000000000000) : ∃ r, g_ratio_Mul ⟨1, q⟩ ⟨1, y⟩ = some r ∧ (if q * y ≤ 1000000 then r = (⟨1, q * y⟩, 0) else r.2 ≠ 0) := by
  have o1 : Rt.ok 1 q = true := Rt.ok_iff.2 ⟨by omega, by omega, by omega, by simp⟩
  have hq : q * y ≥ y := by
    have := Int.mul_le_mul_of_nonneg_right h1 (show 0 ≤ y by omega)
    omega
  have hm := g_Mul ⟨1, q⟩ ⟨1, y⟩ (by unfold i64B; simp) (by unfold i64B; show _ ≤ q ∧ q ≤ _; omega) (by unfold i64B; simp) (by unfold i64B; show _ ≤ y ∧ y ≤ _; omega)
  simp only at hm
  by_cases hy : y ≤ 1000000
  · have o2 : Rt.ok 1 y = true := Rt.ok_iff.2 ⟨by omega, by omega, by omega, by simp⟩
    rw [if_pos ⟨o1, o2⟩] at hm
    have hn : q.natAbs * y.natAbs ≠ 0 := Nat.mul_ne_zero (by omega) (by omega)
    have e : Rt.val 1 q * Rt.val 1 y = mkRat 1 (q.natAbs * y.natAbs) := by unfold Rt.val; rw [Rat.mkRat_mul_mkRat]; rfl
    obtain ⟨n1, n2⟩ := one_over _ hn
    have e2 : ((q.natAbs * y.natAbs : Nat) : Int) = q * y := by rw [Int.natCast_mul, show ((q.natAbs : Nat) : Int) = q by omega, show ((y.natAbs : Nat) : Int) = y by omega]
    have ef : Rt.fits (mkRat 1 (q.natAbs * y.natAbs)) = decide (q * y ≤ 1000000) := by
      unfold Rt.fits; rw [n1, n2]; apply decide_eq_decide.2; omega
    rw [e, asR_fit, ef] at hm
    refine ⟨_, hm, ?_⟩
    by_cases c : q * y ≤ 1000000
    · simp only [c, decide_true, if_true]
      unfold ofQ; rw [n1, n2, e2]
    · simp only [c, decide_false, Bool.false_eq_true, if_false]; decide
  · have o2 : ¬ Rt.ok 1 y = true := fun h => by have := (Rt.ok_iff.1 h).2.1; omega
    rw [if_neg (fun h => o2 h.2)] at hm
    refine ⟨_, hm, ?_⟩
    rw [if_neg (by omega)]
    show (1 : Int) ≠ 0; decide
/-- The value of all that is left. -/
theorem canc_rat {u v U V : List Int} (h : Canc u v 3 0 U V) (hv : prodL v ≠ 0) : Rat.divInt (prodL u) (prodL v) = mkRat (prodL U) (prodL V).natAbs ∧ Nat.gcd (prodL U).natAbs (prodL V).natAbs = 1 ∧ 1 ≤ prodL V := by
  have hV : 1 ≤ prodL V := prodL_pos fun x hx => by
    obtain ⟨i, hi, rfl⟩ := List.getElem_of_mem hx
    exact (h.bv i _ (List.getElem?_eq_getElem hi)).1
  refine ⟨?_, ?_, hV⟩
  · rw [← Rat.divInt_ofNat, show (((prodL V).natAbs : Nat) : Int) = prodL V by omega, Rat.divInt_eq_divInt_iff hv (by omega)]
    exact h.eq.symm
  · have hU := h.lu
    have hW := h.lv
    match U, hU, V, hW with
    | [a, b, c], _, [d, e, f], _ =>
      have co := h.co
      have t := fun (i j : Nat) (x y : Int) hx hy (hi : i < 3) => co i j x y hx hy (.inl hi)
      have k := fun (x : Int) (h1 : Nat.gcd x.natAbs d.natAbs = 1) (h2 : Nat.gcd x.natAbs e.natAbs = 1) (h3 : Nat.gcd x.natAbs f.natAbs = 1) => show Nat.Coprime x.natAbs (prodL [d, e, f]).natAbs by
        show Nat.Coprime _ (d * (e * (f * 1))).natAbs
        rw [Int.natAbs_mul, Int.natAbs_mul, Int.mul_one]
        exact Nat.Coprime.mul_right h1 (Nat.Coprime.mul_right h2 h3)
      have ka := k a (t 0 0 a d rfl rfl (by omega)) (t 0 1 a e rfl rfl (by omega)) (t 0 2 a f rfl rfl (by omega))
      have kb := k b (t 1 0 b d rfl rfl (by omega)) (t 1 1 b e rfl rfl (by omega)) (t 1 2 b f rfl rfl (by omega))
      have kc := k c (t 2 0 c d rfl rfl (by omega)) (t 2 1 c e rfl rfl (by omega)) (t 2 2 c f rfl rfl (by omega))
      show Nat.Coprime (a * (b * (c * 1))).natAbs _
      rw [Int.natAbs_mul, Int.natAbs_mul, Int.mul_one]
      exact Nat.Coprime.mul_left ka (Nat.Coprime.mul_left kb kc)
theorem g_exact (v f g : D.Ratio) (hv : Rt.ok v.Num v.Den = true) (hf : Rt.ok f.Num f.Den = true) (hg : Rt.ok g.Num g.Den = true) (h1 : 0 < f.Num) (h2 : 0 < g.Num) :
    g_quantity_exact v f g = some (asR (Rt.fit (Rt.val v.Num v.Den * Rt.val f.Num f.Den / Rt.val g.Num g.Den))) := by
  obtain ⟨vn, vd⟩ := v
  obtain ⟨fn, fd⟩ := f
  obtain ⟨gn, gd⟩ := g
  simp only at *
  obtain ⟨v1, v2, v3, v4⟩ := Rt.ok_iff.1 hv
  obtain ⟨f1, f2, f3, f4⟩ := Rt.ok_iff.1 hf
  obtain ⟨g1, g2, g3, g4⟩ := Rt.ok_iff.1 hg
  have hc0 : Canc [vn, fn, gd] [vd, fd, gn] 0 0 [vn, fn, gd] [vd, fd, gn] := ⟨rfl, rfl, fun k x hx => by
    match k, hx with
    | 0, hx => cases hx; exact ⟨v3, fun h => by omega⟩
    | 1, hx => cases hx; exact ⟨f3, fun _ => by omega⟩
    | 2, hx => cases hx; exact ⟨by omega, fun _ => by omega⟩
    | k + 3, hx => simp at hx, fun k x hx => by
    match k, hx with
    | 0, hx => cases hx; omega
    | 1, hx => cases hx; omega
    | 2, hx => cases hx; omega
    | k + 3, hx => simp at hx, rfl, fun a b x y _ _ hd => by omega⟩
  obtain ⟨U, V, hc, hl⟩ := cancel_loop (ρ := D.Ratio × Int) _ _ hc0 (fun _ => ((⟨0, 0⟩ : D.Ratio), (0 : Int))) (([vn, fn, gd] : List Int).length : Int) rfl
  unfold g_quantity_exact
  simp only
  rw [hl, bindF_l]
  have hQ : vd * (fd * (gn * 1)) ≠ 0 := Int.mul_ne_zero (by omega) (Int.mul_ne_zero (by omega) (by omega))
  obtain ⟨q1, q2, q3⟩ := canc_rat hc hQ
  have hq : Rt.val vn vd * Rt.val fn fd / Rt.val gn gd = mkRat (prodL U) (prodL V).natAbs := by
    rw [← q1]
    show _ = Rat.divInt (vn * (fn * (gd * 1))) (vd * (fd * (gn * 1)))
    unfold Rt.val
    rw [← Rat.divInt_ofNat, ← Rat.divInt_ofNat, ← Rat.divInt_ofNat, show ((vd.natAbs : Nat) : Int) = vd by omega, show ((fd.natAbs : Nat) : Int) = fd by omega, show ((gd.natAbs : Nat) : Int) = gd by omega]
    rw [Rat.div_def, Rat.inv_divInt, Rat.divInt_mul_divInt, Rat.divInt_mul_divInt]
    congr 1 <;> grind
  rw [hq]
  have hnum : (mkRat (prodL U) (prodL V).natAbs).num = prodL U ∧ (mkRat (prodL U) (prodL V).natAbs).den = (prodL V).natAbs := by
    have hz : (prodL V).natAbs ≠ 0 := by omega
    rw [← Rat.normalize_eq_mkRat hz, Rat.normalize_eq hz]
    simp [q2]
  have hfits : Rt.fits (mkRat (prodL U) (prodL V).natAbs) = decide ((prodL U).natAbs ≤ 1000000000000 ∧ prodL V ≤ 1000000) := by
    unfold Rt.fits; rw [hnum.1, hnum.2]; apply decide_eq_decide.2; omega
  have hlu : (U.length : Int) = ((3 : Nat) : Int) := by rw [hc.lu]
  obtain ⟨r, hr, hQ'⟩ := range_rule (ρ := (D.Ratio × D.Ratio) ⊕ (D.Ratio × Int)) (body := fun (s : D.Ratio × D.Ratio × Int) =>
    if (decide (s.2.2 < (U.length : Int))) = true then
    (getI U s.2.2).bind fun x1 =>
    (g_ratio_Mul s.1 (D.Ratio.mk x1 1)).bind fun x2 =>
    (getI V s.2.2).bind fun x3 =>
    (g_ratio_Mul s.2.1 (D.Ratio.mk 1 x3)).bind fun x4 =>
    bindF (ρ := Bool) (
    if (x2.2 != 0) = true then
    some (.inl true)
    else
    some (.inl (x4.2 != 0))) (fun (e : Bool) =>
    if e = true then
    some (.inr (.inr ((D.Ratio.mk 0 0), 2)))
    else
    some (.inl (x2.1, x4.1, (IntKind.i64.wrap (s.2.2 + 1)))))
    else
    some (.inr (.inl (s.1, s.2.1)))) (fun s => s.2.2) 3
    (fun k s => s.1 = ⟨prodL (U.take k), 1⟩ ∧ s.2.1 = ⟨1, prodL (V.take k)⟩ ∧ (prodL (U.take k)).natAbs ≤ 1000000000000 ∧ 1 ≤ prodL (V.take k) ∧ prodL (V.take k) ≤ 1000000)
    (fun r => (r = .inl (⟨prodL U, 1⟩, ⟨1, prodL V⟩) ∧ (prodL U).natAbs ≤ 1000000000000 ∧ prodL V ≤ 1000000) ∨ (r = .inr (⟨0, 0⟩, 2) ∧ ¬ ((prodL U).natAbs ≤ 1000000000000 ∧ prodL V ≤ 1000000)))
    (fun k s hk hs hJ => by
      obtain ⟨a, b, n⟩ := s
      obtain ⟨ha, hb, j1, j2, j3⟩ := hJ
      simp only at hs ha hb
      subst hs ha hb
      have c1 : decide ((k : Int) < (U.length : Int)) = true := decide_eq_true (by rw [hlu]; omega)
      have hkU : k < U.length := by have := hc.lu; omega
      have hkV : k < V.length := by have := hc.lv; omega
      have gx := List.getElem?_eq_getElem hkU
      have gy := List.getElem?_eq_getElem hkV
      generalize U[k] = x at gx
      generalize V[k] = y at gy
      have bx := (hc.bu k x gx).1
      obtain ⟨by1, by2⟩ := hc.bv k y gy
      have m1 := mul_int _ x j1 bx
      obtain ⟨r4, m2, m3⟩ := mul_den _ y j2 j3 by1 by2
      have t1 := prodL_take gx
      have t2 := prodL_take gy
      rw [← t1] at m1
      rw [← t2] at m3
      have gU := prodL_ge (l := U) (k + 1) (fun i z hz hi => (hc.bu i z hz).2 (by omega))
      have gV := prodL_ge (l := V) (k + 1) (fun i z hz hi => (hc.bv i z hz).1)
      have gV1 : 1 ≤ prodL (V.take (k + 1)) := prodL_pos fun z hz => by
        obtain ⟨i, hi, rfl⟩ := List.getElem_of_mem (List.mem_of_mem_take hz)
        exact (hc.bv i _ (List.getElem?_eq_getElem hi)).1
      simp only [c1, if_true, getI_nat, gx, gy, Option.bind_some, m1, m2]
      by_cases d1 : (prodL (U.take (k + 1))).natAbs ≤ 1000000000000
      · by_cases d2 : prodL (V.take (k + 1)) ≤ 1000000
        · left
          rw [if_pos d2] at m3
          refine ⟨(⟨prodL (U.take (k + 1)), 1⟩, ⟨1, prodL (V.take (k + 1))⟩, ((k + 1 : Nat) : Int)), ?_, rfl, rfl, rfl, d1, gV1, d2⟩
          rw [if_pos d1, m3, inc _ (by omega)]
          rfl
        · right
          rw [if_neg d2] at m3
          refine ⟨.inr (⟨0, 0⟩, 2), ?_, .inr ⟨rfl, by omega⟩⟩
          rw [if_pos d1]
          have : (r4.2 != 0) = true := by simpa using m3
          simp [this]
      · right
        refine ⟨.inr (⟨0, 0⟩, 2), ?_, .inr ⟨rfl, by omega⟩⟩
        rw [if_neg d1]; rfl)
    (fun s hs hJ => by
      obtain ⟨a, b, n⟩ := s
      obtain ⟨ha, hb, j1, j2, j3⟩ := hJ
      simp only at hs ha hb
      subst hs ha hb
      have c1 : decide (((3 : Nat) : Int) < (U.length : Int)) = false := decide_eq_false (by rw [hlu]; omega)
      have tU : U.take 3 = U := List.take_of_length_le (by rw [hc.lu]; omega)
      have tV : V.take 3 = V := List.take_of_length_le (by rw [hc.lv]; omega)
      rw [tU] at j1; rw [tV] at j2 j3
      refine ⟨.inl (⟨prodL U, 1⟩, ⟨1, prodL V⟩), ?_, .inl ⟨rfl, j1, j3⟩⟩
      simp only [c1, Bool.false_eq_true, if_false, tU, tV])
    (s := (⟨1, 1⟩, ⟨1, 1⟩, 0)) (i := 0) rfl ⟨rfl, rfl, (show Int.natAbs 1 ≤ 1000000000000 by decide), Int.le_refl 1, (show (1 : Int) ≤ 1000000 by decide)⟩ (by omega) (by omega)
  rw [hr]
  rcases hQ' with ⟨rfl, d1, d2⟩ | ⟨rfl, hd⟩
  · rw [bindF_l]
    simp only
    have o1 : Rt.ok (prodL U) 1 = true := Rt.ok_iff.2 ⟨by omega, by omega, d1, by simp⟩
    have o2 : Rt.ok 1 (prodL V) = true := Rt.ok_iff.2 ⟨by omega, by omega, by omega, by simp⟩
    rw [g_Mul _ _ (by unfold i64B; show _ ≤ prodL U ∧ prodL U ≤ _; omega) (by unfold i64B; simp) (by unfold i64B; simp) (by unfold i64B; show _ ≤ prodL V ∧ prodL V ≤ _; omega), if_pos ⟨o1, o2⟩]
    have e : Rt.val (prodL U) 1 * Rt.val 1 (prodL V) = mkRat (prodL U) (prodL V).natAbs := by
      unfold Rt.val; rw [Rat.mkRat_mul_mkRat, Int.mul_one]; simp
    simp only [e]; rfl
  · rw [bindF_r, asR_fit, hfits, if_neg (by simpa using hd)]
end Go.Proofs.YtdfokoapenhalaaDoor.Ab
