/- QuantityCovers answers true, in plain Lean. -/
import Derived.Test.YtdfokoapenhalaaDoorGRatQ
import Derived.Test.YtdfokoapenhalaaDoorGRange
import Derived.Test.YtdfokoapenhalaaDoorDq19
namespace Go.Proofs.YtdfokoapenhalaaDoor.Ab
open Go
theorem lt_dec' {a b : Nat} (h : a < b) : decide ((a : Int) < (b : Int)) = true := decide_eq_true (by omega)
abbrev i64R (x : D.Ratio) : Prop := i64B x.Num ∧ i64B x.Den
def okR (x : D.Ratio) : Bool := Rt.ok x.Num x.Den
def vl (x : D.Ratio) : Rat := Rt.val x.Num x.Den
def good (x y : D.Ratio) : Bool := okR x && okR y && !decide (vl x < vl y)
def cov (a b : List D.Ratio) : Bool := decide (a.length = b.length) && (List.range a.length).all fun j => good (a.getD j ⟨0, 0⟩) (b.getD j ⟨0, 0⟩)
theorem getI_d {α : Type} {l : List α} {i : Nat} (z : α) (h : i < l.length) : getI l (i : Int) = some (l.getD i z) := by
  rw [getI_nat, List.getElem?_eq_getElem h]; simp [List.getD_eq_getElem?_getD, h]
theorem getD_in {α : Type} {l : List α} {i : Nat} (z : α) (h : i < l.length) : l.getD i z ∈ l := by
  simp [List.getD_eq_getElem?_getD, h]
theorem cov_iff {a b : List D.Ratio} : cov a b = true ↔ a.length = b.length ∧ ∀ j, j < a.length → good (a.getD j ⟨0, 0⟩) (b.getD j ⟨0, 0⟩) = true := by
  unfold cov; simp only [Bool.and_eq_true, decide_eq_true_eq, List.all_eq_true, List.mem_range]
theorem good_iff {x y : D.Ratio} : good x y = true ↔ okR x = true ∧ okR y = true ∧ vl y ≤ vl x := by
  unfold good; simp only [Bool.and_eq_true, Bool.not_eq_true', decide_eq_false_iff_not, and_assoc, Rat.not_lt]
theorem g_Covers (a b : List D.Ratio) (hl : a.length ≤ 1000) (ha : ∀ x ∈ a, i64R x) (hb : ∀ x ∈ b, i64R x) : g_quantity_Covers a b = some (cov a b) := by
  unfold g_quantity_Covers
  by_cases hlen : a.length = b.length
  · have : ((a.length : Int) != (b.length : Int)) = false := by simp; omega
    simp only [this, Bool.false_eq_true, if_false]
    obtain ⟨r, hr, hq⟩ := range_rule (ρ := Unit ⊕ Bool) (body := fun (s : Int) =>
      if (decide (s < (a.length : Int))) = true then
      (getI a s).bind fun x =>
      (getI b s).bind fun y =>
      bindF (ρ := Bool) (
      (g_ratio_Valid x).bind fun v =>
      if (!v) = true then some (.inl true) else
      (g_ratio_Valid y).bind fun u =>
      if (!u) = true then some (.inl true) else
      (g_ratio_Cmp x y).bind fun z => some (.inl (decide (z < 0)))) (fun (e : Bool) =>
      if e = true then some (.inr (.inr false)) else some (.inl (IntKind.i64.wrap (s + 1))))
      else some (.inr (.inl ()))) (fun s => s) a.length (fun i _ => ∀ j, j < i → good (a.getD j ⟨0, 0⟩) (b.getD j ⟨0, 0⟩) = true)
      (fun r => (r = .inl () ∧ cov a b = true) ∨ (r = .inr false ∧ cov a b = false))
      (fun i s hi hs hJ => by
        subst hs
        have hib : i < b.length := by omega
        have x1 := ha _ (getD_in ⟨0, 0⟩ hi)
        have y1 := hb _ (getD_in ⟨0, 0⟩ hib)
        simp only [lt_dec' hi, if_true, getI_d ⟨0, 0⟩ hi, getI_d ⟨0, 0⟩ hib, Option.bind_some]
        have hn : good (a.getD i ⟨0, 0⟩) (b.getD i ⟨0, 0⟩) = false → cov a b = false := fun h => by
          cases hc : cov a b
          · rfl
          · have := (cov_iff.1 hc).2 i hi
            rw [h] at this; cases this
        generalize hx : a.getD i ⟨0, 0⟩ = x at *
        generalize hy : b.getD i ⟨0, 0⟩ = y at *
        have hbool : ((g_ratio_Valid x).bind fun v =>
          if (!v) = true then some (.inl true) else
          (g_ratio_Valid y).bind fun u =>
          if (!u) = true then some (.inl true) else
          (g_ratio_Cmp x y).bind fun z => some (.inl (decide (z < 0))) : Option (Bool ⊕ (Int ⊕ (Unit ⊕ Bool)))) = some (.inl (!good x y)) := by
          rw [g_Valid x x1.1 x1.2, Option.bind_some]
          unfold good okR
          cases h1 : Rt.ok x.Num x.Den
          · rfl
          · simp only [Bool.not_true, Bool.false_eq_true, if_false]
            rw [g_Valid y y1.1 y1.2, Option.bind_some]
            cases h2 : Rt.ok y.Num y.Den
            · rfl
            · simp only [Bool.not_true, Bool.false_eq_true, if_false]
              rw [g_Cmp x y x1.1 x1.2 y1.1 y1.2, Option.bind_some]
              unfold Rt.cmp vl
              rw [if_pos ⟨h1, h2⟩]
              by_cases c : Rt.val x.Num x.Den < Rt.val y.Num y.Den
              · simp [c]
              · simp only [c, if_false]
                split <;> simp
        rw [hbool]
        simp only [bindF_l]
        cases hg : good x y
        · right
          exact ⟨.inr false, rfl, .inr ⟨rfl, hn hg⟩⟩
        · left
          refine ⟨((i + 1 : Nat) : Int), by simp only [Bool.not_true, Bool.false_eq_true, if_false]; rw [inc i (by omega)], rfl, fun j hj => ?_⟩
          by_cases e : j = i
          · subst e; rw [hx, hy]; exact hg
          · exact hJ j (by omega))
      (fun s hs hJ => by
        subst hs
        exact ⟨.inl (), by simp only [Int.lt_irrefl, decide_false, Bool.false_eq_true, if_false], .inl ⟨rfl, cov_iff.2 ⟨hlen, hJ⟩⟩⟩) (s := 0) (i := 0) rfl (fun j hj => by omega) (by omega) (by omega)
    rw [hr]
    rcases hq with ⟨rfl, hq⟩ | ⟨rfl, hq⟩
    · rw [hq]; rfl
    · rw [hq]; rfl
  · have : ((a.length : Int) != (b.length : Int)) = true := by simp; omega
    simp only [this, if_true]
    unfold cov; rw [decide_eq_false hlen]; rfl
theorem g_qSame (a b : List D.Ratio) (h : a.length ≤ 1000) : g_estoppelref04_Same a b = some (decide (a = b)) := by
  unfold g_estoppelref04_Same
  by_cases hl : a.length = b.length
  · have : ((a.length : Int) != (b.length : Int)) = false := by simp; omega
    simp only [this, Bool.false_eq_true, if_false]
    obtain ⟨r, hr, hq⟩ := range_rule (ρ := Unit ⊕ Bool) (body := fun (s : Int) =>
      if (decide (s < (a.length : Int))) = true then
      (getI a s).bind fun x => (getI b s).bind fun y =>
      if (decide (x ≠ y)) = true then some (.inr (.inr false)) else some (.inl (IntKind.i64.wrap (s + 1)))
      else some (.inr (.inl ()))) (fun s => s) a.length (fun i _ => a.take i = b.take i)
      (fun r => (r = .inl () ∧ a = b) ∨ (r = .inr false ∧ a ≠ b))
      (fun i s hi hs hJ => by
        subst hs
        have hb : i < b.length := by omega
        simp only [lt_dec' hi, if_true, getI_nat, List.getElem?_eq_getElem hi, List.getElem?_eq_getElem hb, Option.bind_some]
        by_cases e : a[i] = b[i]
        · left
          refine ⟨((i + 1 : Nat) : Int), ?_, rfl, ?_⟩
          · simp only [e, ne_eq, not_true_eq_false, decide_false, Bool.false_eq_true, if_false]
            rw [inc i (by omega)]
          · rw [List.take_succ_eq_append_getElem hi, List.take_succ_eq_append_getElem hb, hJ, e]
        · right
          refine ⟨.inr false, by simp only [ne_eq, e, not_false_eq_true, decide_true, if_true], .inr ⟨rfl, fun h => e ?_⟩⟩
          subst h; rfl)
      (fun s hs hJ => by
        subst hs
        refine ⟨.inl (), by simp only [Int.lt_irrefl, decide_false, Bool.false_eq_true, if_false], .inl ⟨rfl, ?_⟩⟩
        rw [List.take_length, hl, List.take_length] at hJ; exact hJ) (s := 0) (i := 0) rfl rfl (by omega) (by omega)
    rw [hr]
    rcases hq with ⟨rfl, hq⟩ | ⟨rfl, hq⟩
    · simp only [bindF_l, hq, decide_true]
    · simp only [bindF_r, hq, decide_false]
  · have : ((a.length : Int) != (b.length : Int)) = true := by simp; omega
    simp only [this, if_true]
    rw [decide_eq_false (fun h => hl (by rw [h]))]
theorem cov_trans {a b c : List D.Ratio} (h1 : cov a b = true) (h2 : cov b c = true) : cov a c = true := by
  obtain ⟨l1, g1⟩ := cov_iff.1 h1
  obtain ⟨l2, g2⟩ := cov_iff.1 h2
  refine cov_iff.2 ⟨l1.trans l2, fun j hj => ?_⟩
  obtain ⟨x1, x2, x3⟩ := good_iff.1 (g1 j hj)
  obtain ⟨y1, y2, y3⟩ := good_iff.1 (g2 j (by omega))
  exact good_iff.2 ⟨x1, y2, Rat.le_trans y3 x3⟩
theorem cov_anti {a b : List D.Ratio} (h1 : cov a b = true) (h2 : cov b a = true) : a = b := by
  obtain ⟨l1, g1⟩ := cov_iff.1 h1
  obtain ⟨l2, g2⟩ := cov_iff.1 h2
  refine List.ext_getElem l1 fun j hj hj' => ?_
  have e1 : a.getD j ⟨0, 0⟩ = a[j] := by simp [List.getD_eq_getElem?_getD, hj]
  have e2 : b.getD j ⟨0, 0⟩ = b[j] := by simp [List.getD_eq_getElem?_getD, hj']
  obtain ⟨x1, x2, x3⟩ := good_iff.1 (g1 j hj)
  obtain ⟨y1, y2, y3⟩ := good_iff.1 (g2 j hj')
  simp only [e1, e2] at x1 x2 x3 y3
  have := Rt.val_inj x1 x2 (Rat.le_antisymm y3 x3)
  have hr : ∀ x y : D.Ratio, x.Num = y.Num → x.Den = y.Den → x = y := fun ⟨_, _⟩ ⟨_, _⟩ h1 h2 => by
    simp only at h1 h2; subst h1; subst h2; rfl
  exact hr _ _ this.1 this.2
theorem vl_ofQ (r : Rat) : vl (ofQ r) = r := Rt.val_rat r
/-- The law's answer. -/
theorem covers_true (a b c d : List D.Ratio) (ha : ∀ x ∈ a, i64R x) (hb : ∀ x ∈ b, i64R x) (hc : ∀ x ∈ c, i64R x) (hd : ∀ x ∈ d, i64R x) (hh : g_estoppellaw04_head = some true) : g_estoppellaw04_QuantityCovers a b c d = some true := by
  unfold g_estoppellaw04_QuantityCovers
  rw [hh, Option.bind_some]
  by_cases l1 : (a.length : Int) > 60
  · simp [l1]
  by_cases l2 : (b.length : Int) > 60
  · simp [l1, l2]
  by_cases l3 : (c.length : Int) > 60
  · simp [l1, l2, l3]
  simp only [l1, l2, l3, decide_false, Bool.false_eq_true, if_false]
  rw [g_Covers a a (by omega) ha ha, Option.bind_some]
  cases ca : cov a a
  · rfl
  simp only [Bool.not_true, Bool.false_eq_true, if_false]
  rw [g_Covers b b (by omega) hb hb, Option.bind_some]
  cases cb : cov b b
  · rfl
  simp only [Bool.not_true, Bool.false_eq_true, if_false]
  rw [g_Covers c c (by omega) hc hc, Option.bind_some]
  cases cc : cov c c
  · rfl
  simp only [Bool.not_true, Bool.false_eq_true, if_false, bindF_l]
  rw [g_Covers a b (by omega) ha hb, Option.bind_some]
  simp only [g_Covers b c (by omega) hb hc, g_Covers a c (by omega) ha hc, g_Covers b a (by omega) hb ha, g_qSame a b (by omega), Option.bind_some]
  have hne : cov a b = true → ((a.length : Int) != (b.length : Int)) = false := fun h => by
    have := (cov_iff.1 h).1; simp; omega
  have hmid : ((if cov a b = true then
      if cov b c = true then
      if (!cov a c) = true then some (.inl true) else
      if cov b a = true then
      if (!decide (a = b)) = true then some (.inl true) else
      if ((a.length : Int) != (b.length : Int)) = true then some (.inl (cov a b)) else some (.inl false)
      else
      if ((a.length : Int) != (b.length : Int)) = true then some (.inl (cov a b)) else some (.inl false)
      else
      if cov b a = true then
      if (!decide (a = b)) = true then some (.inl true) else
      if ((a.length : Int) != (b.length : Int)) = true then some (.inl (cov a b)) else some (.inl false)
      else
      if ((a.length : Int) != (b.length : Int)) = true then some (.inl (cov a b)) else some (.inl false)
      else
      if ((a.length : Int) != (b.length : Int)) = true then some (.inl (cov a b)) else some (.inl false)) : Option (Bool ⊕ Bool)) = some (.inl false) := by
    cases h1 : cov a b
    · simp only [Bool.false_eq_true, if_false]
      split <;> rfl
    · have e := hne h1
      simp only [if_true, e, Bool.false_eq_true, if_false]
      cases h2 : cov b c
      · simp only [Bool.false_eq_true, if_false]
        cases h3 : cov b a
        · rfl
        · have := cov_anti h1 h3
          simp [this]
      · rw [cov_trans h1 h2]
        simp only [if_true, Bool.not_true, Bool.false_eq_true, if_false]
        cases h3 : cov b a
        · rfl
        · have := cov_anti h1 h3
          simp [this]
  rw [hmid]
  simp only [bindF_l, Bool.false_eq_true, if_false]
  by_cases e1 : a.length = b.length
  · have : ((a.length : Int) != (b.length : Int)) = false := by simp; omega
    simp only [this, Bool.false_eq_true, if_false, bindF_l]
    by_cases e2 : d.length = a.length
    · have : ((d.length : Int) != (a.length : Int)) = false := by simp; omega
      simp only [this, Bool.false_eq_true, if_false]
      obtain ⟨r, hr, hq⟩ := range_rule (σ := List D.Ratio × List D.Ratio × Int) (ρ := (List D.Ratio × List D.Ratio) ⊕ Bool) (body := fun s =>
        if (decide (s.2.2 < (a.length : Int))) = true then
        (getI a s.2.2).bind fun x =>
        (getI d s.2.2).bind fun z =>
        (g_ratio_Add x z).bind fun u =>
        (getI b s.2.2).bind fun y =>
        (getI d s.2.2).bind fun z' =>
        (g_ratio_Add y z').bind fun v =>
        bindF (ρ := List D.Ratio × List D.Ratio × Bool) (
        if (u.2 != 0) = true then some (.inl (s.1, s.2.1, true)) else some (.inl (s.1, s.2.1, (v.2 != 0)))) (fun (e : List D.Ratio × List D.Ratio × Bool) =>
        if e.2.2 = true then some (.inr (.inr true)) else
        (appO 16 e.1 [u.1]).bind fun p =>
        (appO 16 e.2.1 [v.1]).bind fun q =>
        some (.inl (p, q, (IntKind.i64.wrap (s.2.2 + 1)))))
        else some (.inr (.inl (s.1, s.2.1)))) (fun s => s.2.2) a.length
        (fun i s => s.1.length = i ∧ s.2.1.length = i ∧ ∀ j, j < i → ∃ p q : Rat, Rt.fits p = true ∧ Rt.fits q = true ∧ s.1.getD j ⟨0, 0⟩ = ofQ p ∧ s.2.1.getD j ⟨0, 0⟩ = ofQ q ∧ (q ≤ p ↔ vl (b.getD j ⟨0, 0⟩) ≤ vl (a.getD j ⟨0, 0⟩)))
        (fun r => r = .inr true ∨ ∃ p q : List D.Ratio, r = .inl (p, q) ∧ p.length = a.length ∧ q.length = a.length ∧ ∀ j, j < a.length → ∃ x y : Rat, Rt.fits x = true ∧ Rt.fits y = true ∧ p.getD j ⟨0, 0⟩ = ofQ x ∧ q.getD j ⟨0, 0⟩ = ofQ y ∧ (y ≤ x ↔ vl (b.getD j ⟨0, 0⟩) ≤ vl (a.getD j ⟨0, 0⟩)))
        (fun i s hi hs ⟨j1, j2, j3⟩ => by
          obtain ⟨s1, s2, s3⟩ := s
          simp only at hs j1 j2 j3; subst hs
          have hib : i < b.length := by omega
          have hid : i < d.length := by omega
          have x1 := ha _ (getD_in ⟨0, 0⟩ hi)
          have y1 := hb _ (getD_in ⟨0, 0⟩ hib)
          have z1 := hd _ (getD_in ⟨0, 0⟩ hid)
          have ga := (good_iff.1 ((cov_iff.1 ca).2 i hi)).1
          have gb := (good_iff.1 ((cov_iff.1 cb).2 i hib)).1
          simp only [lt_dec' hi, if_true, getI_d ⟨0, 0⟩ hi, getI_d ⟨0, 0⟩ hib, getI_d ⟨0, 0⟩ hid, Option.bind_some]
          rw [g_Add _ _ x1.1 x1.2 z1.1 z1.2, Option.bind_some, g_Add _ _ y1.1 y1.2 z1.1 z1.2, Option.bind_some]
          generalize hx : a.getD i ⟨0, 0⟩ = x at *
          generalize hy : b.getD i ⟨0, 0⟩ = y at *
          generalize hz : d.getD i ⟨0, 0⟩ = z at *
          by_cases gz : Rt.ok z.Num z.Den = true
          · have r1 : Rt.add x.Num x.Den z.Num z.Den = Rt.fit (vl x + vl z) := by unfold Rt.add; rw [if_pos ⟨ga, gz⟩]; rfl
            have r2 : Rt.add y.Num y.Den z.Num z.Den = Rt.fit (vl y + vl z) := by unfold Rt.add; rw [if_pos ⟨gb, gz⟩]; rfl
            rw [r1, r2, asR_fit, asR_fit]
            by_cases f1 : Rt.fits (vl x + vl z) = true
            · by_cases f2 : Rt.fits (vl y + vl z) = true
              · left
                have ap : ∀ (l : List D.Ratio) (w : D.Ratio), l.length = i → appO 16 l [w] = some (l ++ [w]) := fun l w hl => by
                  unfold appO; rw [if_pos (by simp; omega)]
                refine ⟨(s1 ++ [ofQ (vl x + vl z)], s2 ++ [ofQ (vl y + vl z)], ((i + 1 : Nat) : Int)), ?_, rfl, by simp [j1], by simp [j2], fun j hj => ?_⟩
                · simp only [f1, f2, if_true, bne_self_eq_false, Bool.false_eq_true, if_false, bindF_l, ap _ _ j1, ap _ _ j2, Option.bind_some]
                  rw [inc i (by omega)]
                · by_cases e : j = i
                  · subst e
                    refine ⟨_, _, f1, f2, by simp [List.getD_eq_getElem?_getD, List.getElem?_append_right, j1], by simp [List.getD_eq_getElem?_getD, List.getElem?_append_right, j2], ?_⟩
                    rw [hx, hy]
                    constructor <;> intro h <;> grind
                  · obtain ⟨p, q, h1, h2, h3, h4, h5⟩ := j3 j (by omega)
                    refine ⟨p, q, h1, h2, ?_, ?_, h5⟩
                    · rw [← h3]; simp only [List.getD_eq_getElem?_getD]; rw [List.getElem?_append_left (by omega)]
                    · rw [← h4]; simp only [List.getD_eq_getElem?_getD]; rw [List.getElem?_append_left (by omega)]
              · right
                exact ⟨.inr true, by simp [f1, f2], .inl rfl⟩
            · right
              exact ⟨.inr true, by simp [f1], .inl rfl⟩
          · right
            have r1 : Rt.add x.Num x.Den z.Num z.Den = (0, 0, 1) := by unfold Rt.add; rw [if_neg (fun h => gz h.2)]
            rw [r1]
            exact ⟨.inr true, rfl, .inl rfl⟩)
        (fun s hs ⟨j1, j2, j3⟩ => by
          obtain ⟨s1, s2, s3⟩ := s
          simp only at hs j1 j2 j3; subst hs
          exact ⟨.inl (s1, s2), by simp only [Int.lt_irrefl, decide_false, Bool.false_eq_true, if_false], .inr ⟨s1, s2, rfl, j1, j2, j3⟩⟩) (s := ([], [], 0)) (i := 0) rfl ⟨rfl, rfl, fun j hj => by omega⟩ (by omega) (by omega)
      rw [hr]
      rcases hq with rfl | ⟨p, q, rfl, hp, hq, hall⟩
      · rfl
      · simp only [bindF_l, if_true]
        have ip : ∀ (p' : List D.Ratio), p'.length = a.length → (∀ j, j < a.length → ∃ x : Rat, Rt.fits x = true ∧ p'.getD j ⟨0, 0⟩ = ofQ x) → ∀ x ∈ p', i64R x := fun p' hl h x hx => by
          obtain ⟨j, hj, rfl⟩ := List.getElem_of_mem hx
          obtain ⟨r, h1, h2⟩ := h j (by omega)
          have e : p'.getD j ⟨0, 0⟩ = p'[j] := by simp [List.getD_eq_getElem?_getD, hj]
          rw [e] at h2; rw [h2]
          obtain ⟨a1, a2, _⟩ := okQ h1
          exact ⟨a1, a2⟩
        rw [g_Covers p q (by omega) (ip p hp fun j hj => by obtain ⟨x, y, h1, h2, h3, h4, h5⟩ := hall j hj; exact ⟨x, h1, h3⟩) (ip q hq fun j hj => by obtain ⟨x, y, h1, h2, h3, h4, h5⟩ := hall j hj; exact ⟨y, h2, h4⟩), Option.bind_some]
        have : cov p q = cov a b := by
          rw [Bool.eq_iff_iff, cov_iff, cov_iff]
          constructor
          · rintro ⟨_, h⟩
            refine ⟨e1, fun j hj => ?_⟩
            obtain ⟨x, y, h1, h2, h3, h4, h5⟩ := hall j hj
            have h6 := (good_iff.1 (h j (by omega))).2.2
            rw [h3, h4, vl_ofQ, vl_ofQ] at h6
            exact good_iff.2 ⟨(good_iff.1 ((cov_iff.1 ca).2 j hj)).1, (good_iff.1 ((cov_iff.1 cb).2 j (by omega))).1, h5.1 h6⟩
          · rintro ⟨_, h⟩
            refine ⟨by omega, fun j hj => ?_⟩
            obtain ⟨x, y, h1, h2, h3, h4, h5⟩ := hall j (by omega)
            have h6 := (good_iff.1 (h j (by omega))).2.2
            rw [h3, h4]
            exact good_iff.2 ⟨Rt.ok_rat h1, Rt.ok_rat h2, by rw [vl_ofQ, vl_ofQ]; exact h5.2 h6⟩
        rw [this]; simp
    · have : ((d.length : Int) != (a.length : Int)) = true := by simp; omega
      simp only [this, if_true]
  · have : ((a.length : Int) != (b.length : Int)) = true := by simp; omega
    simp only [this, if_true, bindF_l]
end Go.Proofs.YtdfokoapenhalaaDoor.Ab
