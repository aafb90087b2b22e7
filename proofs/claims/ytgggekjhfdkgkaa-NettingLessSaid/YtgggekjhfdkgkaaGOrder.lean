/- NettingOrder answers true, in plain Lean. -/
import Derived.Test.YtgggekjhfdkgkaaGAgain
import Derived.Test.YtgggekjhfdkgkaaDx15
namespace Go.Proofs.Ytgggekjhfdkgkaa.Ab
open Go
theorem g_Ratios (a b : List D.Ratio) (h : a.length ≤ 1000) : g_estoppelref42_Ratios a b = some (decide (a = b)) := by
  unfold g_estoppelref42_Ratios
  by_cases hl : a.length = b.length
  · have : ((a.length : Int) != (b.length : Int)) = false := by simp; omega
    simp only [this, Bool.false_eq_true, if_false]
    obtain ⟨r, hr, hq⟩ := range_rule (ρ := Unit ⊕ Bool) (body := fun (s : Int) =>
      if (decide (s < (a.length : Int))) = true then
      (getI a s).bind fun x => (getI b s).bind fun y =>
      if (decide (x ≠ y)) = true then some (.inr (.inr false)) else some (.inl (IntKind.i64.wrap (s + 1)))
      else some (.inr (.inl ()))) (fun s => s) a.length (fun i _ => a.take i = b.take i)
      (fun r => (r = .inl () ∧ a = b) ∨ (r = .inr false ∧ a ≠ b))
      (fun i s hi hs hJ => by
        subst hs
        have hb : i < b.length := by omega
        simp only [lt_dec hi, if_true, getI_nat, List.getElem?_eq_getElem hi, List.getElem?_eq_getElem hb, Option.bind_some]
        by_cases e : a[i] = b[i]
        · left
          refine ⟨((i + 1 : Nat) : Int), ?_, rfl, ?_⟩
          · simp only [e, ne_eq, not_true_eq_false, decide_false, Bool.false_eq_true, if_false]
            rw [inc i (by omega)]
          · rw [List.take_succ_eq_append_getElem hi, List.take_succ_eq_append_getElem hb, hJ, e]
        · right
          refine ⟨.inr false, by simp only [ne_eq, e, not_false_eq_true, decide_true, if_true], .inr ⟨rfl, fun h => e ?_⟩⟩
          subst h; rfl)
      (fun s hs hJ => by
        subst hs
        refine ⟨.inl (), by simp only [Int.lt_irrefl, decide_false, Bool.false_eq_true, if_false], .inl ⟨rfl, ?_⟩⟩
        rw [List.take_length, hl, List.take_length] at hJ; exact hJ) (s := 0) (i := 0) rfl rfl (by omega) (by omega)
    rw [hr]
    rcases hq with ⟨rfl, hq⟩ | ⟨rfl, hq⟩
    · simp only [bindF_l, hq, decide_true]
    · simp only [bindF_r, hq, decide_false]
  · have : ((a.length : Int) != (b.length : Int)) = true := by simp; omega
    simp only [this, if_true]
    rw [decide_eq_false (fun h => hl (by rw [h]))]
theorem rev_loop {τ : Type} (l : List D.Debt) (h : l.length ≤ 400) : loopO (σ := List D.Debt × Int) (ρ := List D.Debt ⊕ τ) (fun s =>
      if (decide (s.2 ≥ 0)) = true then
      (getI l s.2).bind fun x =>
      (appO 32 s.1 [x]).bind fun y => some (.inl (y, (IntKind.i64.wrap (s.2 - 1))))
      else some (.inr (.inl s.1))) ([], (IntKind.i64.wrap ((l.length : Int) - 1))) = some (.inl l.reverse) := by
  refine loopO_eq (fun k s => k ≤ l.length ∧ s.2 = (k : Int) - 1 ∧ s.1 = (l.drop k).reverse) _ (fun k s ⟨hk, h2, h1⟩ => ?_) (k := l.length) ⟨Nat.le_refl _, by rw [wrapI _ (by omega) (by omega)], by simp⟩ (by omega)
  obtain ⟨s1, s2⟩ := s
  simp only at h1 h2; subst h1; subst h2
  cases k with
  | zero => right; simp
  | succ k =>
    left
    have hk' : k < l.length := by omega
    have e : ((k + 1 : Nat) : Int) - 1 = (k : Int) := by omega
    refine ⟨((l.drop k).reverse, (k : Int) - 1), k, ?_, by omega, by omega, rfl, rfl⟩
    have ha : appO 32 (l.drop (k + 1)).reverse [l[k]] = some (l.drop k).reverse := by
      unfold appO
      rw [if_pos (by simp; omega), List.drop_eq_getElem_cons hk', List.reverse_cons]
    simp only [e, show decide ((k : Int) ≥ 0) = true from decide_eq_true (by omega), if_true, getI_nat, List.getElem?_eq_getElem hk', Option.bind_some, ha]
    rw [wrapI _ (by omega) (by omega)]
theorem sumR_append (s : Nt.Debt → Int) : ∀ a b : List Nt.Debt, Nt.sumR s (a ++ b) = Nt.sumR s a + Nt.sumR s b
  | [], b => by simp only [List.nil_append, Nt.sumR]; grind
  | x :: a, b => by simp only [List.cons_append, Nt.sumR, sumR_append s a b]; grind
theorem sumR_reverse (s : Nt.Debt → Int) : ∀ a : List Nt.Debt, Nt.sumR s a.reverse = Nt.sumR s a
  | [] => rfl
  | x :: a => by rw [List.reverse_cons, sumR_append, sumR_reverse s a]; simp only [Nt.sumR]; grind
theorem valid_reverse (m : Int) (l : List Nt.Debt) : Nt.valid m l.reverse = Nt.valid m l := by
  unfold Nt.valid; rw [List.length_reverse, List.all_reverse]
theorem posR_one (m : Int) (l : List Nt.Debt) : ((posR m l).2 == 1) = !Nt.valid m l := by
  unfold posR
  cases Nt.valid m l
  · rfl
  · simp only [if_true]
    cases Nt.posL l m.toNat <;> rfl
theorem pos_both (m : Int) (l : List Nt.Debt) (h : (posR m l).2 = 0) (h' : (posR m l.reverse).2 = 0) : posR m l = posR m l.reverse ∧ netR m l = netR m l.reverse := by
  unfold posR at h h'
  unfold posR netR
  rw [valid_reverse] at h' ⊢
  cases hv : Nt.valid m l
  · rw [hv] at h; simp at h
  rw [hv] at h h'
  simp only [if_true] at h h' ⊢
  cases hp : Nt.posL l m.toNat with
  | none => rw [hp] at h; simp at h
  | some ps =>
  cases hp' : Nt.posL l.reverse m.toNat with
  | none => rw [hp'] at h'; simp at h'
  | some ps' =>
  have : ps = ps' := Nt.posL_same hp hp' (fun p _ => (sumR_reverse _ _).symm)
  subst this
  exact ⟨rfl, rfl⟩
theorem net_pos0 (m : Int) (l : List Nt.Debt) (h : (netR m l).2 = 0) : (posR m l).2 = 0 := by
  unfold netR at h
  unfold posR
  cases hv : Nt.valid m l
  · rw [hv] at h; simp at h
  rw [hv] at h
  simp only [if_true] at h ⊢
  cases hp : Nt.posL l m.toNat with
  | none => rw [hp] at h; simp at h
  | some ps => rfl
theorem pairs_both (m : Int) (l : List Nt.Debt) (h : (pairsR m l).2 = 0) (h' : (pairsR m l.reverse).2 = 0) : (pairsR m l).1 = (pairsR m l.reverse).1 := by
  unfold pairsR at h h' ⊢
  rw [valid_reverse] at h' ⊢
  cases hv : Nt.valid m l
  · rfl
  rw [hv] at h h'
  simp only [if_true] at h h' ⊢
  unfold Nt.pairsO at h h' ⊢
  by_cases hB : Nt.pairsB l m.toNat = true
  · by_cases hB' : Nt.pairsB l.reverse m.toNat = true
    · rw [if_pos hB, if_pos hB']
      have hgv : Nt.gv l m.toNat = Nt.gv l.reverse m.toNat := by
        funext i j
        unfold Nt.gv
        by_cases c : i < j ∧ j < m.toNat
        · rw [if_pos c, if_pos c]
          obtain ⟨v, hv⟩ := Option.isSome_iff_exists.1 (Nt.pairsB_iff.1 hB i j c.1 c.2)
          obtain ⟨v', hv'⟩ := Option.isSome_iff_exists.1 (Nt.pairsB_iff.1 hB' i j c.1 c.2)
          rw [hv, hv']
          have e1 := Nt.sumO_exact hv
          have e2 := Nt.sumO_exact hv'
          rw [sumR_reverse] at e2
          rw [e1, e2]
        · rw [if_neg c, if_neg c]
      have : Nt.outK l m.toNat 144 = Nt.outK l.reverse m.toNat 144 := by unfold Nt.outK; rw [hgv]
      rw [this]
    · rw [if_neg hB'] at h'; simp at h'
  · rw [if_neg hB] at h; simp at h
theorem posR_len (m : Int) (l : List Nt.Debt) : (posR m l).1.length ≤ 1000 := by
  unfold posR
  cases hv : Nt.valid m l
  · simp
  · have h12 := (Nt.valid_iff.1 hv).1
    simp only [if_true]
    cases hp : Nt.posL l m.toNat with
    | none => simp
    | some ps => have := Nt.posL_len hp; simp; omega
theorem order_true (m : Int) (l : List D.Debt) (h : ∀ x ∈ l, i64D x) : g_estoppellaw42_NettingOrder m l = some true := by
  unfold g_estoppellaw42_NettingOrder
  rw [head_true, Option.bind_some]
  by_cases hlen : (l.length : Int) > 400
  · rw [if_pos (decide_eq_true hlen)]
  have h' : ∀ x ∈ l.reverse, i64D x := fun x hx => h x (List.mem_reverse.1 hx)
  rw [if_neg (by simpa using hlen), rev_loop l (by omega)]
  simp only [bindF_l]
  rw [g_nPositions m l h, g_nPositions m _ h', g_nNet m l h, g_nNet m _ h', g_nPairs m l h, g_nPairs m _ h', List.map_reverse]
  simp only [Option.bind_some]
  have c1 : (!(((posR m (l.map toN)).2 == 1) == ((posR m (l.map toN).reverse).2 == 1))) = false := by
    rw [posR_one, posR_one, valid_reverse]; simp
  have hA := pos_both m (l.map toN)
  have hN := net_pos0 m (l.map toN)
  have hN' := net_pos0 m (l.map toN).reverse
  have hP := pairs_both m (l.map toN)
  have lA := posR_len m (l.map toN)
  have lN : (netR m (l.map toN)).1.length ≤ 1000 := by obtain ⟨o, e, _, n, _⟩ := netR_out m (l.map toN); rw [e]; simp; omega
  have lP : (pairsR m (l.map toN)).1.length ≤ 1000 := by obtain ⟨o, e, _, n, _⟩ := pairsR_out m (l.map toN); rw [e]; simp; omega
  generalize posR m (l.map toN) = A at *
  generalize posR m (l.map toN).reverse = A' at *
  generalize netR m (l.map toN) = N at *
  generalize netR m (l.map toN).reverse = N' at *
  generalize pairsR m (l.map toN) = P at *
  generalize pairsR m (l.map toN).reverse = P' at *
  have sA := g_Ratios A.1 A'.1 lA
  have sN := g_Same N.1 N'.1 lN
  have sP := g_Same P.1 P'.1 lP
  have hsec : (if (P.2 == 0) = true then if (P'.2 == 0) = true then (g_estoppelref42_Same P.1 P'.1).bind fun x => some (.inl (!x)) else some (.inl false) else some (.inl false) : Option (Bool ⊕ Bool)) = some (.inl false) := by
    by_cases p : P.2 = 0
    · by_cases p' : P'.2 = 0
      · rw [sP, hP p p']; simp [p, p']
      · simp [p, p']
    · simp [p]
  have hfst : (if (!((A.2 == 1) == (A'.2 == 1))) = true then some (.inl true) else if (A.2 == 0) = true then if (A'.2 == 0) = true then (g_estoppelref42_Ratios A.1 A'.1).bind fun x => some (.inl (!x)) else some (.inl false) else some (.inl false) : Option (Bool ⊕ Bool)) = some (.inl false) := by
    rw [c1]
    by_cases a : A.2 = 0
    · by_cases a' : A'.2 = 0
      · rw [sA, (hA a a').1]; simp [a']
      · simp [a, a']
    · simp [a]
  rw [hfst]
  simp only [bindF_l, Bool.false_eq_true, if_false]
  rw [hsec]
  simp only [bindF_l, Bool.false_eq_true, if_false, if_true]
  by_cases a : A.2 = 0
  · by_cases a' : A'.2 = 0
    · rw [sN, (hA a a').2]
      by_cases n : N'.2 = 0
      · simp [a, a', n]
      · simp [a, a', n]
    · have n' : ¬ N'.2 = 0 := fun h => a' (hN' h)
      by_cases n : N.2 = 0
      · simp [a, a', n, n']
      · simp [a, a', n]
  · have n : ¬ N.2 = 0 := fun h => a (hN h)
    simp [a, n]
end Go.Proofs.Ytgggekjhfdkgkaa.Ab
