/- What netting's Valid, sums and Positions compute. -/
import Derived.Test.YtgggekjhfdkgkaaGRat
import Derived.Test.YtgggekjhfdkgkaaDx6
import Derived.Test.YtgggekjhfdkgkaaDx5
import Derived.Test.YtgggekjhfdkgkaaNetPl
namespace Go.Proofs.Ytgggekjhfdkgkaa.Ab
open Go
/-- A loop over the indices below n. -/
theorem range_rule {σ ρ : Type} {body : σ → Option (σ ⊕ ρ)} (ix : σ → Int) (n : Nat) (J : Nat → σ → Prop) (Q : ρ → Prop)
    (h : ∀ i s, i < n → ix s = i → J i s → (∃ s', body s = some (.inl s') ∧ ix s' = ((i + 1 : Nat) : Int) ∧ J (i + 1) s') ∨ ∃ r, body s = some (.inr r) ∧ Q r)
    (he : ∀ s, ix s = n → J n s → ∃ r, body s = some (.inr r) ∧ Q r)
    {s : σ} {i : Nat} (h0 : ix s = i) (hJ : J i s) (hle : i ≤ n) (hn : n < 1000000000000000000) : ∃ r, loopO body s = some r ∧ Q r := by
  refine loopO_rule (fun k s => ∃ i : Nat, ix s = i ∧ i + k = n ∧ J i s) Q (fun k s ⟨i, hi, hk, hJ⟩ => ?_) (k := n - i) ⟨i, h0, by omega, hJ⟩ (by omega)
  by_cases hin : i < n
  · rcases h i s hin hi hJ with ⟨s', hb, hi', hJ'⟩ | hr
    · exact .inl ⟨s', k - 1, hb, by omega, i + 1, hi', by omega, hJ'⟩
    · exact .inr hr
  · obtain rfl : i = n := by omega
    exact .inr (he s hi hJ)
theorem range_eq {σ ρ : Type} {body : σ → Option (σ ⊕ ρ)} (ix : σ → Int) (n : Nat) (J : Nat → σ → Prop) (r : ρ)
    (h : ∀ i s, i < n → ix s = i → J i s → (∃ s', body s = some (.inl s') ∧ ix s' = ((i + 1 : Nat) : Int) ∧ J (i + 1) s') ∨ body s = some (.inr r))
    (he : ∀ s, ix s = n → J n s → body s = some (.inr r))
    {s : σ} {i : Nat} (h0 : ix s = i) (hJ : J i s) (hle : i ≤ n) (hn : n < 1000000000000000000) : loopO body s = some r := by
  obtain ⟨r', hl, rfl⟩ := range_rule ix n J (· = r) (fun i s a b c => (h i s a b c).imp id fun h => ⟨r, h, rfl⟩) (fun s a b => ⟨r, he s a b, rfl⟩) h0 hJ hle hn
  exact hl
def toN (x : D.Debt) : Nt.Debt := ⟨x.From, x.To, x.Amount.Num, x.Amount.Den⟩
abbrev i64D (x : D.Debt) : Prop := i64B x.From ∧ i64B x.To ∧ i64B x.Amount.Num ∧ i64B x.Amount.Den
theorem g_Valid_1 (p m : Int) : g_netting_Valid_1 p m = some (decide (0 ≤ p ∧ p < m)) := by
  unfold g_netting_Valid_1
  by_cases h : 0 ≤ p
  · rw [if_pos (decide_eq_true h)]; congr 1; simp [h]
  · rw [if_neg (by simp; omega)]; congr 1; simp; omega
theorem g_Valid_2 (x : D.Debt) (m : Int) (h : i64D x) : g_netting_Valid_2 x m = some (!Nt.okD m (toN x)) := by
  obtain ⟨f, t, n, d⟩ := x
  obtain ⟨_, _, h3, h4⟩ := h
  unfold g_netting_Valid_2 Nt.okD toN
  simp only [g_Valid_1, g_Valid ⟨n, d⟩ h3 h4, Option.bind_some]
  simp only at h3 h4
  cases decide (0 ≤ f ∧ f < m)
  · simp
  · cases decide (0 ≤ t ∧ t < m)
    · simp
    · by_cases e : f = t
      · simp [e]
      · have : (f == t) = false := by simpa using e
        cases Rt.ok n d
        · simp [this]
        · by_cases h0 : 0 < n
          · simp [this, e, h0]
          · simp [this, e, h0]; omega
theorem g_Index (l : List D.Debt) (m : Int) (hl : l.length ≤ 400) (h : ∀ x ∈ l, i64D x) : g_slices_ContainsFunc_Valid_2 l m = some (l.any fun x => !Nt.okD m (toN x)) := by
  unfold g_slices_ContainsFunc_Valid_2 g_slices_IndexFunc_Valid_2
  obtain ⟨r, hr, hq⟩ := range_rule (ρ := Unit ⊕ Int) (body := fun (s : Int) => if (decide (s < (l.length : Int))) = true then
      (getI l s).bind fun x => (g_netting_Valid_2 x m).bind fun y => if y = true then some (.inr (.inr s)) else some (.inl (IntKind.i64.wrap (s + 1)))
      else some (.inr (.inl ()))) id l.length (fun i _ => (l.take i).any (fun x => !Nt.okD m (toN x)) = false)
      (fun r => match r with | .inl _ => (l.any fun x => !Nt.okD m (toN x)) = false | .inr r => 0 ≤ r ∧ (l.any fun x => !Nt.okD m (toN x)) = true)
      (fun i s hi hs hJ => by
        simp only [id] at hs; subst hs
        have hg : getI l (i : Int) = some l[i] := by rw [getI_nat, List.getElem?_eq_getElem hi]
        simp only [decide_eq_true (show (i : Int) < (l.length : Int) by omega), if_true, hg, Option.bind_some, g_Valid_2 _ m (h l[i] (List.getElem_mem hi))]
        cases hb : (!Nt.okD m (toN l[i]))
        · left
          refine ⟨((i + 1 : Nat) : Int), by simp only [Bool.false_eq_true, if_false]; rw [inc i (by omega)], rfl, ?_⟩
          rw [List.take_succ_eq_append_getElem hi, List.any_append, hJ]; simpa using hb
        · right
          exact ⟨_, rfl, by omega, List.any_eq_true.2 ⟨l[i], List.getElem_mem hi, hb⟩⟩)
      (fun s hs hJ => by
        simp only [id] at hs; subst hs
        refine ⟨.inl (), by simp, ?_⟩
        rw [List.take_length] at hJ; exact hJ) (s := 0) (i := 0) rfl (by simp) (by omega) (by omega)
  rw [hr]
  cases r with
  | inl u => simp only [bindF_l, Option.bind_some]; simp only at hq; rw [hq]; rfl
  | inr r => simp only [bindF_r, Option.bind_some]; simp only at hq; rw [hq.2, decide_eq_true hq.1]
theorem g_nValid (m : Int) (l : List D.Debt) (h : ∀ x ∈ l, i64D x) : g_netting_Valid m l = some (Nt.valid m (l.map toN)) := by
  unfold g_netting_Valid Nt.valid
  by_cases h1 : 1 ≤ m
  · by_cases h2 : m ≤ 12
    · by_cases h3 : l.length ≤ 400
      · rw [if_pos (decide_eq_true h1), if_pos (decide_eq_true h2), if_pos (decide_eq_true (by omega)), g_Index l m h3 h]
        simp only [Option.bind_some, List.length_map, h1, h2, h3, and_self, decide_true, Bool.true_and]
        congr 1
        rw [List.all_map, List.any_eq_not_all_not, Bool.not_not]
        congr 1; funext x; simp
      · rw [if_pos (decide_eq_true h1), if_pos (decide_eq_true h2), if_neg (by simp; omega)]; simp [h3]
    · rw [if_pos (decide_eq_true h1), if_neg (by simp; omega)]; simp [h2]
  · rw [if_neg (by simp; omega)]; simp [h1]
theorem g_Positions_1 (x : D.Debt) (p : Int) : g_netting_Positions_1 x p = some (Nt.sgnP p (toN x)) := by
  obtain ⟨f, t, q⟩ := x
  show (if (p == t) = true then some 1 else if (p == f) = true then some (-1) else some 0) = some (if p = t then 1 else if p = f then -1 else 0)
  simp only [beq_iff_eq]
  split
  · rfl
  · split <;> rfl
theorem g_Pairs_1 (x : D.Debt) (a b : Int) : g_netting_Pairs_1 x a b = some (Nt.sgnQ a b (toN x)) := by
  unfold g_netting_Pairs_1 Nt.sgnQ toN
  by_cases h1 : x.From = a <;> by_cases h2 : x.To = b <;> by_cases h3 : x.From = b <;> by_cases h4 : x.To = a <;> simp [*] <;> (try split) <;> simp_all
/-- A valid ratio as it stands. -/
def ofQ (r : Rat) : D.Ratio := ⟨r.num, (r.den : Int)⟩
theorem okB {n d : Int} (h : Rt.ok n d = true) : i64B n ∧ i64B d ∧ n ≠ -9223372036854775808 := by
  obtain ⟨h1, h2, h3, _⟩ := Rt.ok_iff.1 h
  unfold i64B; omega
theorem asR_fit (r : Rat) : asR (Rt.fit r) = if Rt.fits r = true then (ofQ r, 0) else (⟨0, 0⟩, 2) := by
  unfold asR Rt.fit ofQ; split <;> rfl
theorem sum_loop (l : List D.Debt) (s : Nt.Debt → Int) (g : D.Debt → Option Int) (hg : ∀ x, g x = some (s (toN x))) (hl : l.length ≤ 400) (hok : ∀ x ∈ l, Rt.ok x.Amount.Num x.Amount.Den = true) :
    bindF (ρ := D.Ratio) (loopO (σ := D.Ratio × Int × Int) (fun z =>
      if (decide (z.2.2 < (l.length : Int))) = true then
      (getI l z.2.2).bind fun x =>
      (g x).bind fun y =>
      bindF (ρ := D.Ratio × Int) (
      if (y == 1) = true then
      (g_ratio_Add z.1 x.Amount).bind fun q =>
      some (.inl (q.1, q.2))
      else
      if (y == (-1)) = true then
      (g_ratio_Sub z.1 x.Amount).bind fun q =>
      some (.inl (q.1, q.2))
      else
      some (.inl (z.1, z.2.1))) (fun (e : D.Ratio × Int) =>
      if (e.2 != 0) = true then
      some (.inr (.inr ((D.Ratio.mk 0 0), e.2)))
      else
      some (.inl (e.1, e.2, (IntKind.i64.wrap (z.2.2 + 1)))))
      else
      some (.inr (.inl z.1))) ((D.Ratio.mk 0 1), 0, 0)) (fun (e : D.Ratio) => some (e, (0 : Int))) = some (asR (Nt.res (Nt.sumO s (l.map toN) 0))) := by
  rw [range_eq (σ := D.Ratio × Int × Int) (ρ := D.Ratio ⊕ (D.Ratio × Int)) (fun z => z.2.2) l.length (fun i z => z.2.1 = 0 ∧ ∃ r : Rat, Rt.fits r = true ∧ z.1 = ofQ r ∧ Nt.sumO s ((l.map toN).drop i) r = Nt.sumO s (l.map toN) 0)
      (match Nt.sumO s (l.map toN) 0 with | some r => .inl (ofQ r) | none => .inr (⟨0, 0⟩, 2))
      (fun i z hi hz ⟨h2, r, hr, h1, hs⟩ => by
        obtain ⟨z1, z2, z3⟩ := z
        simp only at hz h2 h1; subst hz; subst h2; subst h1
        have hg' : getI l (i : Int) = some l[i] := by rw [getI_nat, List.getElem?_eq_getElem hi]
        have hx := hok l[i] (List.getElem_mem hi)
        have hd : (l.map toN).drop i = toN l[i] :: (l.map toN).drop (i + 1) := by
          rw [List.drop_eq_getElem_cons (by simpa using hi)]; simp
        obtain ⟨b1, b2, b3⟩ := okB hx
        obtain ⟨c1, c2, _⟩ := okB (Rt.ok_rat hr)
        simp only [decide_eq_true (show (i : Int) < (l.length : Int) by omega), if_true, hg', Option.bind_some, hg]
        rw [inc i (by omega)]
        by_cases v1 : s (toN l[i]) = 1
        · have ea : Rt.add (ofQ r).Num (ofQ r).Den l[i].Amount.Num l[i].Amount.Den = Rt.fit (r + Nt.sg 1 (toN l[i]).amt) := Nt.add_sg1 (x := toN l[i]) hr hx
          simp only [v1, beq_self_eq_true, if_true, g_Add (ofQ r) l[i].Amount c1 c2 b1 b2, ea, asR_fit, Option.bind_some, bindF_l]
          by_cases hf : Rt.fits (r + Nt.sg 1 (toN l[i]).amt) = true
          · left
            refine ⟨(ofQ (r + Nt.sg 1 (toN l[i]).amt), 0, ((i + 1 : Nat) : Int)), by simp [hf], rfl, rfl, _, hf, rfl, ?_⟩
            rw [← hs, Nt.sumO_step hd v1 hf]
          · right
            rw [← hs, Nt.sumO_stop hd v1 hf]
            simp [hf]
        · by_cases v2 : s (toN l[i]) = -1
          · have ea : Rt.add (ofQ r).Num (ofQ r).Den (-l[i].Amount.Num) l[i].Amount.Den = Rt.fit (r + Nt.sg (-1) (toN l[i]).amt) := Nt.add_sgm (x := toN l[i]) hr hx
            simp only [v2, show ((-1 : Int) == 1) = false from rfl, Bool.false_eq_true, if_false, beq_self_eq_true, if_true, g_Sub (ofQ r) l[i].Amount c1 c2 b1 b2 b3, ea, asR_fit, Option.bind_some, bindF_l]
            by_cases hf : Rt.fits (r + Nt.sg (-1) (toN l[i]).amt) = true
            · left
              refine ⟨(ofQ (r + Nt.sg (-1) (toN l[i]).amt), 0, ((i + 1 : Nat) : Int)), by simp [hf], rfl, rfl, _, hf, rfl, ?_⟩
              rw [← hs, Nt.sumO_step hd v2 hf]
            · right
              rw [← hs, Nt.sumO_stop hd v2 hf]
              simp [hf]
          · left
            refine ⟨(ofQ r, 0, ((i + 1 : Nat) : Int)), by simp [v1, v2], rfl, rfl, r, hr, rfl, ?_⟩
            rw [← hs, Nt.sumO_skip hd v1 v2 hr])
      (fun z hz ⟨h2, r, hr, h1, hs⟩ => by
        rw [List.drop_eq_nil_of_le (by simp)] at hs
        rw [← hs]
        simp [hz, Nt.sumO, h1]) (i := 0) rfl ⟨rfl, 0, Nt.zero_fits, rfl, rfl⟩ (by omega) (by omega)]
  cases Nt.sumO s (l.map toN) 0 with
  | none => rfl
  | some r => rfl
theorem g_sumP (l : List D.Debt) (p : Int) (hl : l.length ≤ 400) (hok : ∀ x ∈ l, Rt.ok x.Amount.Num x.Amount.Den = true) : g_netting_sum_Positions_1 l p = some (asR (Nt.res (Nt.pos (l.map toN) p))) :=
  sum_loop l (Nt.sgnP p) (fun x => g_netting_Positions_1 x p) (fun x => g_Positions_1 x p) hl hok
theorem g_sumQ (l : List D.Debt) (a b : Int) (hl : l.length ≤ 400) (hok : ∀ x ∈ l, Rt.ok x.Amount.Num x.Amount.Den = true) : g_netting_sum_Pairs_1 l a b = some (asR (Nt.res (Nt.pair (l.map toN) a b))) :=
  sum_loop l (Nt.sgnQ a b) (fun x => g_netting_Pairs_1 x a b) (fun x => g_Pairs_1 x a b) hl hok
end Go.Proofs.Ytgggekjhfdkgkaa.Ab
