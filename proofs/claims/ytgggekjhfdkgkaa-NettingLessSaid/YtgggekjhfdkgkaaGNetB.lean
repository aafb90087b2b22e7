/- What netting's Positions and Net compute. -/
import Derived.Test.YtgggekjhfdkgkaaGNetA
import Derived.Test.YtgggekjhfdkgkaaDx7
import Derived.Test.YtgggekjhfdkgkaaNetPl
namespace Go.Proofs.Ytgggekjhfdkgkaa.Ab
open Go
def ofD (x : Nt.Debt) : D.Debt := ⟨x.f, x.t, ⟨x.n, x.d⟩⟩
theorem toN_ofD (x : Nt.Debt) : toN (ofD x) = x := rfl
theorem getI_q {ps : List Rat} {k : Nat} (h : k < ps.length) : getI (ps.map ofQ) (k : Int) = some (ofQ (ps.getD k 0)) := by
  rw [getI_nat, List.getElem?_map, List.getElem?_eq_getElem h]; simp [List.getD_eq_getElem?_getD, h]
theorem setI_q (ps : List Rat) (k : Nat) (v : Rat) : setI (ps.map ofQ) (k : Int) (ofQ v) = (ps.set k v).map ofQ := by
  rw [setI_nat, List.map_set]
theorem getI_set_ne {α : Type} {l : List α} {k j : Nat} (h : k ≠ j) (x : α) : getI (setI l (k : Int) x) (j : Int) = getI l (j : Int) := by
  rw [getI_nat, setI_nat, getI_nat, List.getElem?_set_ne h]
theorem set_fillQ (ps : List Rat) (r : Rat) (m : Nat) (x : D.Ratio) : (ps.map ofQ ++ List.replicate (m + 1) x).set ps.length (ofQ r) = (ps ++ [r]).map ofQ ++ List.replicate m x := by
  rw [List.set_append, if_neg (by simp), List.length_map, Nat.sub_self, List.replicate_succ, List.set_cons_zero]; simp
theorem pos_loop {τ : Type} (e : Int → τ) (l : List D.Debt) (n : Nat) (hn : n ≤ 12) (hl : l.length ≤ 400) (hok : ∀ x ∈ l, Rt.ok x.Amount.Num x.Amount.Den = true) :
    loopO (σ := List D.Ratio × Int) (ρ := List D.Ratio ⊕ τ) (fun s =>
      if (decide (s.2 < ((List.replicate n (D.Ratio.mk 0 0)).length : Int))) = true then
      (g_netting_sum_Positions_1 l s.2).bind fun y =>
      if (y.2 != 0) = true then some (.inr (.inr (e y.2))) else
      (getI s.1 s.2).bind fun _ => some (.inl ((setI s.1 s.2 y.1), (IntKind.i64.wrap (s.2 + 1))))
      else some (.inr (.inl s.1))) (List.replicate n (D.Ratio.mk 0 0), 0) = some (match Nt.posL (l.map toN) n with | some ps => .inl (ps.map ofQ) | none => .inr (e 2)) := by
  refine range_eq (fun s => s.2) n (fun i s => ∃ ps, Nt.posL (l.map toN) i = some ps ∧ s.1 = ps.map ofQ ++ List.replicate (n - i) ⟨0, 0⟩) _ (fun i s hi hs ⟨ps, hp, h1⟩ => ?_) (fun s hs ⟨ps, hp, h1⟩ => ?_) (i := 0) rfl ⟨[], rfl, by simp⟩ (by omega) (by omega)
  · obtain ⟨s1, s2⟩ := s
    simp only at hs h1; subst hs; subst h1
    have hlen := Nt.posL_len hp
    simp only [List.length_replicate, decide_eq_true (show (i : Int) < (n : Int) by omega), if_true, g_sumP l i hl hok, Option.bind_some]
    cases hq : Nt.pos (l.map toN) i with
    | none =>
      right
      rw [Nt.posL_none hp hq n hi]
      rfl
    | some r =>
      left
      have hg : getI (ps.map ofQ ++ List.replicate (n - i) (D.Ratio.mk 0 0)) (i : Int) = some ⟨0, 0⟩ := by
        rw [getI_nat, List.getElem?_append_right (by simp; omega), List.length_map, hlen, Nat.sub_self, List.getElem?_replicate, if_pos (by omega)]
      refine ⟨((ps ++ [r]).map ofQ ++ List.replicate (n - (i + 1)) ⟨0, 0⟩, ((i + 1 : Nat) : Int)), ?_, rfl, ps ++ [r], Nt.posL_next hp hq, rfl⟩
      show (if ((0 : Int) != 0) = true then _ else _) = _
      simp only [bne_self_eq_false, Bool.false_eq_true, if_false, hg, Option.bind_some]
      rw [inc i (by omega), setI_nat, show n - i = (n - (i + 1)) + 1 by omega]
      have := set_fillQ ps r (n - (i + 1)) ⟨0, 0⟩
      rw [hlen] at this
      exact congrArg (fun z => some (Sum.inl (z, ((i + 1 : Nat) : Int)))) this
  · obtain ⟨s1, s2⟩ := s
    simp only at hs h1; subst hs; subst h1
    rw [hp]; simp
theorem okL {m : Int} {l : List D.Debt} (hv : Nt.valid m (l.map toN) = true) : (1 ≤ m ∧ m ≤ 12) ∧ l.length ≤ 400 ∧ ∀ x ∈ l, Rt.ok x.Amount.Num x.Amount.Den = true := by
  obtain ⟨h1, h2, h3⟩ := Nt.valid_iff.1 hv
  exact ⟨h1, by simpa using h2, fun x hx => (Nt.okD_iff.1 (h3 (toN x) (List.mem_map_of_mem hx))).2.2.2.1⟩
theorem make16 (m : Int) (h1 : 1 ≤ m) (h2 : m ≤ 12) : makeO 16 (D.Ratio.mk 0 0) m m = some (List.replicate m.toNat ⟨0, 0⟩) := by
  unfold makeO; rw [if_pos (by omega)]
/-- What Positions gives. -/
def posR (m : Int) (l : List Nt.Debt) : List D.Ratio × Int := if Nt.valid m l = true then (match Nt.posL l m.toNat with | some ps => (ps.map ofQ, 0) | none => ([], 2)) else ([], 1)
theorem g_nPositions (m : Int) (l : List D.Debt) (h : ∀ x ∈ l, i64D x) : g_netting_Positions m l = some (posR m (l.map toN)) := by
  unfold g_netting_Positions posR
  rw [g_nValid m l h, Option.bind_some]
  cases hv : Nt.valid m (l.map toN)
  · rfl
  · obtain ⟨⟨h1, h2⟩, h3, h4⟩ := okL hv
    simp only [Bool.not_true, Bool.false_eq_true, if_false, if_true, make16 m h1 h2, Option.bind_some]
    rw [pos_loop (fun z => (([] : List D.Ratio), z)) l m.toNat (by omega) h3 h4]
    cases Nt.posL (l.map toN) m.toNat <;> rfl
theorem g_nPositions_own (m : Int) (l : List D.Debt) (h : ∀ x ∈ l, i64D x) : g_netting_Positions_own m l = some (if Nt.valid m (l.map toN) = true then (match Nt.posL (l.map toN) m.toNat with | some ps => .inr (ps.map ofQ, 0) | none => .inl 2) else .inl 1) := by
  unfold g_netting_Positions_own
  rw [g_nValid m l h, Option.bind_some]
  cases hv : Nt.valid m (l.map toN)
  · rfl
  · obtain ⟨⟨h1, h2⟩, h3, h4⟩ := okL hv
    simp only [Bool.not_true, Bool.false_eq_true, if_false, if_true, make16 m h1 h2, Option.bind_some]
    rw [pos_loop (fun z => (.inl z : Int ⊕ (List D.Ratio × Int))) l m.toNat (by omega) h3 h4]
    cases Nt.posL (l.map toN) m.toNat <;> rfl
theorem okQ {r : Rat} (h : Rt.fits r = true) : i64B (ofQ r).Num ∧ i64B (ofQ r).Den ∧ (ofQ r).Num ≠ -9223372036854775808 := okB (Rt.ok_rat h)
theorem cmp_q {a b : Rat} (ha : Rt.fits a = true) (hb : Rt.fits b = true) : g_ratio_Cmp (ofQ a) (ofQ b) = some (Nt.cmpR a b) := by
  obtain ⟨a1, a2, _⟩ := okQ ha
  obtain ⟨b1, b2, _⟩ := okQ hb
  rw [g_Cmp _ _ a1 a2 b1 b2]; exact congrArg some (Nt.cmp_rat ha hb)
theorem add_q {a b : Rat} (ha : Rt.fits a = true) (hb : Rt.fits b = true) : g_ratio_Add (ofQ a) (ofQ b) = some (asR (Rt.fit (a + b))) := by
  obtain ⟨a1, a2, _⟩ := okQ ha
  obtain ⟨b1, b2, _⟩ := okQ hb
  rw [g_Add _ _ a1 a2 b1 b2]; unfold Rt.add ofQ; rw [if_pos ⟨Rt.ok_rat ha, Rt.ok_rat hb⟩, Rt.val_rat, Rt.val_rat]
theorem sub_q {a b : Rat} (ha : Rt.fits a = true) (hb : Rt.fits b = true) : g_ratio_Sub (ofQ a) (ofQ b) = some (asR (Rt.fit (a - b))) := by
  obtain ⟨a1, a2, _⟩ := okQ ha
  obtain ⟨b1, b2, b3⟩ := okQ hb
  rw [g_Sub _ _ a1 a2 b1 b2 b3]; unfold Rt.add ofQ; rw [if_pos ⟨Rt.ok_rat ha, by rw [Rt.ok_neg]; exact Rt.ok_rat hb⟩, Rt.val_neg, Rt.val_rat, Rt.val_rat, Rat.sub_eq_add_neg]
theorem minus_q {a : Rat} (ha : Rt.fits a = true) : g_netting_minus (ofQ a) = some (ofQ (-a)) := by
  obtain ⟨a1, a2, a3⟩ := okQ ha
  unfold i64B at a1
  unfold g_netting_minus
  rw [wrapI _ (by omega) (by omega), Int.zero_sub]; rfl
theorem ext_loop (c : Int → Bool) (g : Int → Option Bool) (hg : ∀ z, g z = some (c z)) (ps : List Rat) (h0 : 1 ≤ ps.length) (h1 : ps.length ≤ 12) (hf : ∀ r ∈ ps, Rt.fits r = true) :
    bindF (ρ := Int) (loopO (σ := Int × Int) (fun s =>
      if (decide (s.2 < ((ps.map ofQ).length : Int))) = true then
      (getI (ps.map ofQ) s.2).bind fun x =>
      (getI (ps.map ofQ) s.1).bind fun y =>
      (g_ratio_Cmp x y).bind fun z =>
      (g z).bind fun b =>
      if b = true then some (.inl (s.2, (IntKind.i64.wrap (s.2 + 1)))) else some (.inl (s.1, (IntKind.i64.wrap (s.2 + 1))))
      else some (.inr (.inl s.1))) (0, 0)) (fun e => some e) = some ((Nt.extK c ps ps.length : Nat) : Int) := by
  rw [range_eq (σ := Int × Int) (ρ := Int ⊕ Int) (fun s => s.2) ps.length (fun i s => s.1 = (Nt.extK c ps i : Nat)) (.inl ((Nt.extK c ps ps.length : Nat) : Int))
    (fun i s hi hs h => by
      obtain ⟨s1, s2⟩ := s
      simp only at hs h; subst hs; subst h
      have hk := Nt.extK_lt c ps ps.length h0 i (by omega)
      left
      simp only [List.length_map, decide_eq_true (show (i : Int) < (ps.length : Int) by omega), if_true, getI_q hi, getI_q hk, Option.bind_some, cmp_q (hf _ (Nt.getD_mem hi)) (hf _ (Nt.getD_mem hk)), hg]
      rw [inc i (by omega)]
      cases hc : c (Nt.cmpR (ps.getD i 0) (ps.getD (Nt.extK c ps i) 0))
      · exact ⟨_, rfl, rfl, by simp only [Nt.extK, hc, Bool.false_eq_true, if_false]⟩
      · exact ⟨_, rfl, rfl, by simp only [Nt.extK, hc, if_true]⟩)
    (fun s hs h => by
      obtain ⟨s1, s2⟩ := s
      simp only at hs h; subst hs; subst h
      simp) (i := 0) rfl rfl (by omega) (by omega)]
  rfl
theorem g_min {n : Nat} {ps : List Rat} (h : Nt.Good n ps) (hn : n ≤ 12) : g_netting_Net_1_Net_2 (ps.map ofQ) = some ((Nt.dmin ps : Nat) : Int) :=
  ext_loop (fun x => decide (x < 0)) (fun z => g_netting_Net_2 z 0) (fun z => rfl) ps (by rw [h.len]; exact h.pos) (by rw [h.len]; exact hn) h.fit
theorem g_max {n : Nat} {ps : List Rat} (h : Nt.Good n ps) (hn : n ≤ 12) : g_netting_Net_1_Net_3 (ps.map ofQ) = some ((Nt.cmax ps : Nat) : Int) :=
  ext_loop (fun x => decide (0 < x)) (fun z => g_netting_Net_3 z 0) (fun z => rfl) ps (by rw [h.len]; exact h.pos) (by rw [h.len]; exact hn) h.fit
/-- What Net gives. -/
def netR (m : Int) (l : List Nt.Debt) : List D.Debt × Int := if Nt.valid m l = true then (match Nt.posL l m.toNat with | some ps => (match Nt.settle (m.toNat + 1) ps with | some out => (out.map ofD, 0) | none => ([], 2)) | none => ([], 2)) else ([], 1)
theorem num_zero (r : Rat) : ((ofQ r).Num == 0) = decide (r = 0) := by
  unfold ofQ
  rw [Bool.eq_iff_iff, beq_iff_eq, decide_eq_true_iff]
  exact Rat.num_eq_zero
theorem g_nNet (m : Int) (l : List D.Debt) (h : ∀ x ∈ l, i64D x) : g_netting_Net m l = some (netR m (l.map toN)) := by
  unfold g_netting_Net netR
  rw [g_nPositions_own m l h, Option.bind_some]
  cases hv : Nt.valid m (l.map toN)
  · rfl
  obtain ⟨⟨h1, h2⟩, h3, h4⟩ := okL hv
  simp only [if_true]
  cases hp : Nt.posL (l.map toN) m.toNat with
  | none => rfl
  | some ps0 =>
  have hm : ((m.toNat : Nat) : Int) = m := by omega
  have hG0 : Nt.Good m.toNat ps0 := Nt.good_init (by rw [hm]; exact hv) hp
  simp only [Sum.elim_inr, bne_self_eq_false, Bool.false_eq_true, if_false]
  generalize hT0 : Nt.settle (m.toNat + 1) ps0 = T
  refine loopO_eq (fun k s => ∃ ps out, Nt.Good m.toNat ps ∧ Nt.nz ps < k ∧ s.1 = ps.map ofQ ∧ s.2 = out.map ofD ∧ out.length + Nt.nz ps ≤ 12 ∧ (Nt.settle k ps).map (out ++ ·) = T) _ ?_ (k := m.toNat + 1) ⟨ps0, [], hG0, ?_, rfl, rfl, ?_, ?_⟩ (by omega)
  · rintro k ⟨s1, s2⟩ ⟨ps, out, hG, hk, h1', h2', hlen, hT⟩
    simp only at h1' h2'; subst h1'; subst h2'
    have hd := hG.dlt
    have hc := hG.clt
    rw [← hG.len] at hd hc
    have fd := hG.fit _ (Nt.getD_mem hd)
    have fc := hG.fit _ (Nt.getD_mem hc)
    have fx := hG.fitX
    simp only [g_min hG (by omega), g_max hG (by omega), getI_q hd, getI_q hc, Option.bind_some, num_zero]
    obtain ⟨k, rfl⟩ : ∃ k', k = k' + 1 := ⟨k - 1, by omega⟩
    unfold Nt.settle at hT
    by_cases hz : ps.getD (Nt.dmin ps) 0 = 0
    · right
      rw [if_pos hz] at hT
      rw [← hT]
      simp only [hz, hG.done hz, decide_true, if_true, bindF_l, Option.map_some, List.append_nil]
    · rw [if_neg hz] at hT
      have hne := hG.ne hz
      simp only [hz, decide_false, Bool.false_eq_true, if_false, bindF_l, minus_q fd, Option.bind_some, cmp_q (Nt.fits_neg fd) fc]
      have hx : (if decide (Nt.cmpR (-ps.getD (Nt.dmin ps) 0) (ps.getD (Nt.cmax ps) 0) < 0) = true then some (.inl (out.map ofD, ofQ (-ps.getD (Nt.dmin ps) 0))) else some (.inl (out.map ofD, ofQ (ps.getD (Nt.cmax ps) 0))) : Option ((List D.Debt × D.Ratio) ⊕ ((List D.Ratio × List D.Debt) ⊕ (List D.Debt × Int)))) = some (.inl (out.map ofD, ofQ (Nt.amtX ps))) := by
        unfold Nt.cmpR Nt.amtX
        generalize ps.getD (Nt.dmin ps) 0 = a
        generalize ps.getD (Nt.cmax ps) 0 = b
        by_cases c1 : -a < b
        · simp [c1]
        · simp only [c1, if_false]
          split <;> rfl
      simp only [hx, bindF_l, add_q fd fx, Option.bind_some, getI_set_ne hne, getI_q hc, sub_q fc fx, asR_fit]
      by_cases f1 : Rt.fits (ps.getD (Nt.dmin ps) 0 + Nt.amtX ps) = true
      · by_cases f2 : Rt.fits (ps.getD (Nt.cmax ps) 0 - Nt.amtX ps) = true
        · left
          have hg : Nt.goes ps := ⟨f1, f2⟩
          rw [if_pos hg] at hT
          have hl' := hG.less hz
          refine ⟨((Nt.next ps).map ofQ, (out ++ [Nt.pay ps]).map ofD), k, ?_, by omega, Nt.next ps, out ++ [Nt.pay ps], hG.next hz hg, by omega, rfl, rfl, by simp; omega, ?_⟩
          · have ha : appO 32 (out.map ofD) [D.Debt.mk ((Nt.dmin ps : Nat) : Int) ((Nt.cmax ps : Nat) : Int) (ofQ (Nt.amtX ps))] = some ((out ++ [Nt.pay ps]).map ofD) := by
              unfold appO
              rw [if_pos (by simp; omega), List.map_append]; rfl
            simp only [f1, f2, if_true, bne_self_eq_false, Bool.false_eq_true, if_false, bindF_l, setI_q, ha, Option.bind_some]
            rfl
          · rw [← hT, Option.map_map]; congr 1; funext z; simp
        · right
          have hg : ¬ Nt.goes ps := fun h => f2 h.2
          rw [if_neg hg] at hT
          rw [← hT]
          simp only [f1, f2, if_true, if_false, Bool.false_eq_true, bne_self_eq_false, show ((2 : Int) != 0) = true from rfl, bindF_l, Option.map_none]
      · right
        have hg : ¬ Nt.goes ps := fun h => f1 h.1
        rw [if_neg hg] at hT
        rw [← hT]
        simp only [f1, if_true, if_false, Bool.false_eq_true, show ((2 : Int) != 0) = true from rfl, bindF_l, Option.map_none]
  · have := Nt.nz_le ps0; have := hG0.len; omega
  · have := Nt.nz_le ps0; have := hG0.len; simp; omega
  · rw [hT0]; cases T <;> simp
end Go.Proofs.Ytgggekjhfdkgkaa.Ab
