/- QuantityBack, QuantityWay and QuantityLinear answer true, in plain Lean. -/
import Derived.Test.YtdfokoapenhalaaDoorGQt
import Derived.Test.YtdfokoapenhalaaDoorDq18
namespace Go.Proofs.YtdfokoapenhalaaDoor.Ab
open Go
theorem g_small (u : List D.Unit) (l : List D.Amount) : ∃ b, g_estoppellaw04_small u l = some b ∧ (b = true → u.length ≤ 25 ∧ l.length ≤ 60) := by
  unfold g_estoppellaw04_small
  obtain ⟨r, hr, hq⟩ := range_rule (ρ := Unit ⊕ Bool) (body := fun (s : Int) =>
    if (decide (s < (u.length : Int))) = true then
    bindF (ρ := Bool) (
    if (decide (s ≥ 25)) = true then
    some (.inl true)
    else
    (getI u s).bind fun x =>
    some (.inl (decide ((x.Name.size : Int) > 100)))) (fun (e : Bool) =>
    if e = true then
    some (.inr (.inr false))
    else
    some (.inl (IntKind.i64.wrap (s + 1))))
    else
    some (.inr (.inl ()))) (fun s => s) (min u.length 26) (fun i _ => i ≤ 25) (fun r => (r = .inl () ∧ u.length ≤ 25) ∨ r = .inr false)
    (fun i s hi hs _ => by
      subst hs
      have hin : inU u (i : Nat) = true := decide_eq_true (by omega)
      have c1 : decide ((i : Int) < (u.length : Int)) = true := decide_eq_true (by omega)
      simp only [c1, if_true, getI_in hin, Option.bind_some]
      by_cases c2 : (i : Int) ≥ 25
      · right; exact ⟨.inr false, by simp [c2], .inr rfl⟩
      · simp only [c2, decide_false, Bool.false_eq_true, if_false, bindF_l]
        cases h : decide (((uAt u (i : Nat)).Name.size : Int) > 100)
        · left
          refine ⟨((i + 1 : Nat) : Int), ?_, rfl, by omega⟩
          simp only [Bool.false_eq_true, if_false]; rw [inc _ (by omega)]
        · right; exact ⟨.inr false, by simp, .inr rfl⟩)
    (fun s hs hJ => by
      subst hs
      have c1 : decide (((min u.length 26 : Nat) : Int) < (u.length : Int)) = false := decide_eq_false (by omega)
      exact ⟨.inl (), by simp only [c1, Bool.false_eq_true, if_false], .inl ⟨rfl, by omega⟩⟩)
    (s := 0) (i := 0) rfl (by omega) (by omega) (by omega)
  rw [hr]
  rcases hq with ⟨rfl, h⟩ | rfl
  · exact ⟨_, rfl, fun hb => ⟨h, by have := of_decide_eq_true hb; omega⟩⟩
  · exact ⟨false, rfl, fun h => by cases h⟩
theorem fits_bd {q : Rat} (h : Rt.fits q = true) : i64B (ofQ q).Num ∧ i64B (ofQ q).Den := ⟨(okQ h).1, (okQ h).2.1⟩
theorem vl_ofQ (q : Rat) : vl (ofQ q) = q := Rt.val_rat q
theorem ofQ_vl {x : D.Ratio} (h : okR x = true) : ofQ (vl x) = x := by
  obtain ⟨a, b⟩ := x
  have := Rt.val_eq h
  unfold ofQ vl
  rw [this.1, this.2]
theorem okR_ofQ {q : Rat} (h : Rt.fits q = true) : okR (ofQ q) = true := Rt.ok_rat h
theorem hasA_amt {u : List D.Unit} {t : Int} {q : Rat} (ht : inU u t = true) (h : Rt.fits q = true) : hasA u (amt t q) = true := by
  unfold hasA amt; rw [Bool.and_eq_true]; exact ⟨ht, okR_ofQ h⟩
theorem vl_pos {x : D.Ratio} (h : okR x = true) (hp : 0 < x.Num) : vl x ≠ 0 := by
  have e := (Rt.val_eq h).1
  intro h0
  have : (Rt.val x.Num x.Den).num = 0 := by
    have h0 : Rt.val x.Num x.Den = 0 := h0
    rw [h0]; rfl
  omega
theorem cv_ok {u : List D.Unit} {a : D.Amount} {t : Int} (h : (cv u a t).2 = 0) :
    (vt u).2 = true ∧ inU u t = true ∧ hasA u a = true ∧ (uAt u a.Unit).Base = (uAt u t).Base ∧ Rt.fits (cq u t a) = true ∧ cv u a t = (amt t (cq u t a), 0) := by
  unfold cv at h ⊢
  split at h
  · rename_i h1
    rw [if_pos h1]
    simp only [Bool.and_eq_true] at h1
    split at h
    · rename_i h2
      rw [if_pos h2]
      split at h
      · rename_i h3
        rw [if_pos h3]
        exact ⟨h1.1.1, h1.1.2, h1.2, h2, h3, rfl⟩
      · cases h
    · cases h
  · cases h
theorem cv_err {u : List D.Unit} {a : D.Amount} {t : Int} (h : ¬ (cv u a t).2 = 0) : (cv u a t).1 = zA := by
  unfold cv at h ⊢
  split
  · split
    · split
      · exfalso; simp_all
      · rfl
    · rfl
  · rfl
theorem cv_eq {u : List D.Unit} {a : D.Amount} {t : Int} (h1 : (vt u).2 = true) (h2 : inU u t = true) (h3 : hasA u a = true) (h4 : (uAt u a.Unit).Base = (uAt u t).Base) :
    cv u a t = if Rt.fits (cq u t a) = true then (amt t (cq u t a), 0) else (zA, 2) := by
  unfold cv; rw [if_pos (by simp [h1, h2, h3]), if_pos h4]
theorem cv_i64 {u : List D.Unit} {a : D.Amount} {t : Int} (ht : i64B t) : i64A (cv u a t).1 := by
  by_cases h : (cv u a t).2 = 0
  · obtain ⟨_, _, _, _, h5, h6⟩ := cv_ok h
    rw [h6]
    exact ⟨ht, (fits_bd h5).1, (fits_bd h5).2⟩
  · rw [cv_err h]; unfold i64A zA i64B; simp
theorem cq_unit {u : List D.Unit} (hv : (vt u).2 = true) {t : Int} (ht : inU u t = true) (s : Int) (q : Rat) : cq u s (amt t q) = q * vl (uAt u t).Factor / vl (uAt u s).Factor := by
  unfold cq amt; rw [vl_ofQ]
theorem f_ne {u : List D.Unit} (hv : (vt u).2 = true) {t : Int} (ht : inU u t = true) : vl (uAt u t).Factor ≠ 0 := vl_pos (vt_unit hv ht).ok (vt_unit hv ht).pos
theorem back_true (u : List D.Unit) (a : D.Amount) (t : Int) (hu : ∀ x ∈ u, i64U x) (ha : i64A a) (ht : i64B t) (hh : g_estoppellaw04_head = some true) : g_estoppellaw04_QuantityBack u a t = some true := by
  unfold g_estoppellaw04_QuantityBack
  rw [hh, Option.bind_some]
  obtain ⟨b, hb, hb'⟩ := g_small u []
  rw [hb, Option.bind_some]
  cases b
  · rfl
  have hl := (hb' rfl).1
  simp only [Bool.not_true, Bool.false_eq_true, if_false, g_Convert u a t hu (by omega) ha, Option.bind_some]
  by_cases h : (cv u a t).2 = 0
  · obtain ⟨h1, h2, h3, h4, h5, h6⟩ := cv_ok h
    have h7 : okR a.Value = true ∧ inU u a.Unit = true := by unfold hasA at h3; simp at h3; exact ⟨h3.2, h3.1⟩
    rw [h6]
    have e : cq u a.Unit (amt t (cq u t a)) = vl a.Value := by
      rw [cq_unit h1 h2]
      unfold cq
      have n1 := f_ne h1 h2
      have n2 := f_ne h1 h7.2
      generalize vl (uAt u t).Factor = g at *
      generalize vl (uAt u a.Unit).Factor = f at *
      rw [Rat.div_mul_cancel n1, Rat.mul_div_cancel n2]
    rw [g_Convert u _ a.Unit hu (by omega) ⟨ht, fits_bd h5⟩, Option.bind_some]
    rw [cv_eq h1 h7.2 (hasA_amt h2 h5) h4.symm, e, if_pos (show Rt.fits (vl a.Value) = true from Rt.fits_val h7.1)]
    have c : ((0 : Int) != 0) = false := rfl
    simp only [c, Bool.false_eq_true, if_false]
    rw [g_Valid (amt t (cq u t a)).Value (fits_bd h5).1 (fits_bd h5).2, Option.bind_some]
    have o : Rt.ok (amt t (cq u t a)).Value.Num (amt t (cq u t a)).Value.Den = true := okR_ofQ h5
    rw [o]
    have c2 : ((amt t (cq u t a)).Unit == t) = true := by unfold amt; simp
    simp only [c2, if_true]
    have e2 : amt a.Unit (vl a.Value) = a := by
      obtain ⟨x, y⟩ := a
      unfold amt; rw [ofQ_vl h7.1]
    rw [e2]; simp
  · have c : ((cv u a t).2 != 0) = true := by simpa using h
    simp only [c, if_true, cv_err h]
    rfl
theorem way_true (u : List D.Unit) (a : D.Amount) (t s : Int) (hu : ∀ x ∈ u, i64U x) (ha : i64A a) (ht : i64B t) (hs : i64B s) (hh : g_estoppellaw04_head = some true) : g_estoppellaw04_QuantityWay u a t s = some true := by
  unfold g_estoppellaw04_QuantityWay
  rw [hh, Option.bind_some]
  obtain ⟨b, hb, hb'⟩ := g_small u []
  rw [hb, Option.bind_some]
  cases b
  · rfl
  have hl := (hb' rfl).1
  simp only [Bool.not_true, Bool.false_eq_true, if_false, g_Convert u a t hu (by omega) ha, g_Convert u (cv u a t).1 s hu (by omega) (cv_i64 ht), g_Convert u a s hu (by omega) ha, Option.bind_some, if_true]
  by_cases h : (cv u a t).2 = 0
  · have c : ((cv u a t).2 != 0) = false := by simp [h]
    simp only [c, Bool.false_eq_true, if_false]
    obtain ⟨h1, h2, h3, h4, h5, h6⟩ := cv_ok h
    have h7 : okR a.Value = true ∧ inU u a.Unit = true := by unfold hasA at h3; simp at h3; exact ⟨h3.2, h3.1⟩
    rw [h6]
    simp only
    by_cases k : (cv u (amt t (cq u t a)) s).2 = 0
    · have c : ((cv u (amt t (cq u t a)) s).2 != 0) = false := by simp [k]
      simp only [c, Bool.false_eq_true, if_false]
      obtain ⟨_, k2, k3, k4, k5, k6⟩ := cv_ok k
      have e : cq u s (amt t (cq u t a)) = cq u s a := by
        rw [cq_unit h1 h2]
        unfold cq
        have n1 := f_ne h1 h2
        generalize vl (uAt u t).Factor = g at *
        rw [Rat.div_mul_cancel n1]
      rw [e] at k5 k6
      rw [k6, cv_eq h1 k2 h3 (h4.trans k4), if_pos k5]
      simp
    · have c : ((cv u (amt t (cq u t a)) s).2 != 0) = true := by simpa using k
      simp only [c, if_true]
  · have c : ((cv u a t).2 != 0) = true := by simpa using h
    simp only [c, if_true]
theorem add_R (a b : D.Ratio) (h1 : i64B a.Num) (h2 : i64B a.Den) (h3 : i64B b.Num) (h4 : i64B b.Den) : g_ratio_Add a b = some (if (okR a && okR b) = true then (if Rt.fits (vl a + vl b) = true then (ofQ (vl a + vl b), 0) else (⟨0, 0⟩, 2)) else (⟨0, 0⟩, 1)) := by
  rw [g_Add a b h1 h2 h3 h4]
  unfold Rt.add okR vl
  by_cases h : Rt.ok a.Num a.Den = true ∧ Rt.ok b.Num b.Den = true
  · rw [if_pos h, if_pos (by simpa using h), asR_fit]
  · rw [if_neg h, if_neg (by simpa using h)]; rfl
theorem linear_true (u : List D.Unit) (x y : D.Ratio) (s t : Int) (hu : ∀ x ∈ u, i64U x) (hx : i64B x.Num ∧ i64B x.Den) (hy : i64B y.Num ∧ i64B y.Den) (hs : i64B s) (ht : i64B t) (hh : g_estoppellaw04_head = some true) : g_estoppellaw04_QuantityLinear u x y s t = some true := by
  unfold g_estoppellaw04_QuantityLinear
  rw [hh, Option.bind_some]
  obtain ⟨b, hb, hb'⟩ := g_small u []
  rw [hb, Option.bind_some]
  cases b
  · rfl
  have hl := (hb' rfl).1
  simp only [Bool.not_true, Bool.false_eq_true, if_false, add_R x y hx.1 hx.2 hy.1 hy.2, Option.bind_some]
  rw [g_Convert u ⟨s, x⟩ t hu (by omega) ⟨hs, hx⟩, g_Convert u ⟨s, y⟩ t hu (by omega) ⟨hs, hy⟩]
  simp only [Option.bind_some]
  by_cases h1 : (okR x && okR y) = true
  · rw [if_pos h1]
    by_cases h2 : Rt.fits (vl x + vl y) = true
    · rw [if_pos h2]
      rw [g_Convert u ⟨s, ofQ (vl x + vl y)⟩ t hu (by omega) ⟨hs, fits_bd h2⟩, Option.bind_some]
      by_cases k1 : (cv u ⟨s, x⟩ t).2 = 0
      · by_cases k2 : (cv u ⟨s, y⟩ t).2 = 0
        · by_cases k3 : (cv u ⟨s, ofQ (vl x + vl y)⟩ t).2 = 0
          · obtain ⟨_, _, _, _, x5, x6⟩ := cv_ok k1
            obtain ⟨_, _, _, _, y5, y6⟩ := cv_ok k2
            obtain ⟨_, _, _, _, z5, z6⟩ := cv_ok k3
            rw [x6, y6, z6]
            have e : cq u t ⟨s, ofQ (vl x + vl y)⟩ = cq u t ⟨s, x⟩ + cq u t ⟨s, y⟩ := by
              unfold cq
              simp only [vl_ofQ]
              rw [Rat.div_def, Rat.div_def, Rat.div_def, Rat.add_mul, Rat.add_mul]
            have ha : g_ratio_Add (ofQ (cq u t ⟨s, x⟩)) (ofQ (cq u t ⟨s, y⟩)) = some (asR (Rt.fit (cq u t ⟨s, x⟩ + cq u t ⟨s, y⟩))) := add_q x5 y5
            rw [e] at z5 ⊢
            rw [asR_fit, if_pos z5] at ha
            have c : ((0 : Int) != 0) = false := rfl
            simp only [c, Bool.false_eq_true, if_false, bindF_l]
            show (g_ratio_Add (ofQ (cq u t ⟨s, x⟩)) (ofQ (cq u t ⟨s, y⟩))).bind _ = _
            rw [ha]
            simp [amt]
          · have c : ((cv u ⟨s, ofQ (vl x + vl y)⟩ t).2 != 0) = true := by simpa using k3
            simp [k1, k2, c]
        · have c : ((cv u ⟨s, y⟩ t).2 != 0) = true := by simpa using k2
          simp [k1, c]
      · have c : ((cv u ⟨s, x⟩ t).2 != 0) = true := by simpa using k1
        simp [c]
    · rw [if_neg h2]
      rw [g_Convert u ⟨s, ⟨0, 0⟩⟩ t hu (by omega) ⟨hs, by unfold i64B; simp, by unfold i64B; simp⟩]
      rfl
  · rw [if_neg h1]
    rw [g_Convert u ⟨s, ⟨0, 0⟩⟩ t hu (by omega) ⟨hs, by unfold i64B; simp, by unfold i64B; simp⟩]
    rfl
end Go.Proofs.YtdfokoapenhalaaDoor.Ab
