/- NettingLess answers true, in plain Lean. -/
import Derived.Test.YtgggekjhfdkgkaaGDiv
import Derived.Test.YtgggekjhfdkgkaaGRef
import Derived.Test.YtgggekjhfdkgkaaGOrder
import Derived.Test.YtgggekjhfdkgkaaDx18
import Derived.Test.YtgggekjhfdkgkaaDx19
namespace Go.Proofs.Ytgggekjhfdkgkaa.Nt
open Rt
def ab (r : Rat) : Rat := if r < 0 then -r else r
theorem ab_add (a b : Rat) : ab (a + b) ≤ ab a + ab b := by
  unfold ab; split <;> split <;> split <;> grind
theorem ab_nonneg (a : Rat) : 0 ≤ ab a := by unfold ab; split <;> grind
theorem ab_pos {a : Rat} (h : 0 ≤ a) : ab a = a := by unfold ab; rw [if_neg (Rat.not_lt.2 h)]
theorem total_ab_set (ps : List Rat) (k : Nat) (hk : k < ps.length) (v : Rat) : total ((ps.set k v).map ab) = total (ps.map ab) - ab (ps.getD k 0) + ab v := by
  rw [List.map_set, total_set _ _ (by simpa using hk)]
  congr 2
  simp [List.getD_eq_getElem?_getD, hk]
theorem next_ab {n : Nat} {ps : List Rat} (h : Good n ps) (hd : ps.getD (dmin ps) 0 ≠ 0) : total ((next ps).map ab) = total (ps.map ab) - 2 * amtX ps := by
  obtain ⟨n1, n2⟩ := h.neg hd
  obtain ⟨m1, m2⟩ := amtX_le ps
  unfold next
  rw [total_ab_set _ _ (by rw [List.length_set, h.len]; exact h.clt), total_ab_set _ _ (by rw [h.len]; exact h.dlt), getD_set_ne _ (h.ne hd)]
  generalize ps.getD (dmin ps) 0 = d at *
  generalize ps.getD (cmax ps) 0 = c at *
  generalize amtX ps = x at *
  have e1 : ab d = -d := by unfold ab; rw [if_pos n1]
  have e2 : ab c = c := ab_pos (Rat.le_of_lt n2)
  have e3 : ab (c - x) = c - x := ab_pos (by grind)
  have e4 : ab (d + x) = -(d + x) := by unfold ab; split <;> grind
  rw [e1, e2, e3, e4]; grind
theorem settle_half {n : Nat} : ∀ (f : Nat) (ps : List Rat) (out : List Debt), Good n ps → settle f ps = some out → 2 * total (out.map Debt.amt) = total (ps.map ab)
  | 0, ps, out, _, h => by cases h
  | f + 1, ps, out, hG, h => by
    unfold settle at h
    by_cases hd : ps.getD (dmin ps) 0 = 0
    · rw [if_pos hd] at h
      injection h with h; subst h
      have hz := total_nonneg (fun k hk => by have := hG.dle k (by rw [← hG.len]; exact hk); rw [hd] at this; exact this) hG.sum
      have : ∀ qs : List Rat, (∀ k, k < qs.length → qs.getD k 0 = 0) → total (qs.map ab) = 0 := by
        intro qs
        induction qs with
        | nil => intro _; rfl
        | cons q qs ih =>
          intro h
          have h0 : q = 0 := h 0 (by simp)
          have ih' := ih (fun k hk => by have := h (k + 1) (by simp; omega); simpa using this)
          show ab q + total (qs.map ab) = 0
          rw [ih', h0]; unfold ab; grind
      rw [this ps hz]
      show 2 * (0 : Rat) = 0
      grind
    · rw [if_neg hd] at h
      by_cases hg : goes ps
      · rw [if_pos hg] at h
        cases hs : settle f (next ps) with
        | none => rw [hs] at h; cases h
        | some rest =>
          rw [hs] at h
          have ho : out = pay ps :: rest := by simpa using h.symm
          subst ho
          have ih := settle_half f (next ps) rest (hG.next hd hg) hs
          rw [next_ab hG hd] at ih
          show 2 * ((pay ps).amt + total (rest.map Debt.amt)) = _
          rw [pay_amt]; grind
      · rw [if_neg hg] at h; cases h
theorem net_half {l : List Debt} {n : Nat} {ps : List Rat} {out : List Debt} (hv : valid n l = true) (hp : posL l n = some ps) (h : settle (n + 1) ps = some out) : 2 * total (out.map Debt.amt) = total (ps.map ab) :=
  settle_half _ _ _ (good_init hv hp) h
theorem upto_le (f g : Nat → Rat) (h : ∀ k, f k ≤ g k) : ∀ n, upto f n ≤ upto g n
  | 0 => Rat.le_refl
  | n + 1 => by have := upto_le f g h n; have := h n; unfold upto; grind
def touch (k : Int) (x : Debt) : Rat := if k = x.t then x.amt else if k = x.f then x.amt else 0
def sumA (k : Int) : List Debt → Rat
  | [] => 0
  | x :: l => touch k x + sumA k l
theorem upto_touch (x : Debt) (hne : x.f ≠ x.t) (hf : 0 ≤ x.f) (ht : 0 ≤ x.t) : ∀ n : Nat, upto (fun k => touch (k : Nat) x) n = (if x.t < n then x.amt else 0) + (if x.f < n then x.amt else 0)
  | 0 => by
    rw [if_neg (by omega), if_neg (by omega)]; unfold upto; grind
  | n + 1 => by
    unfold upto
    rw [upto_touch x hne hf ht n]
    unfold touch
    by_cases h1 : (n : Int) = x.t
    · rw [if_pos h1, if_neg (by omega : ¬ x.t < (n : Int)), if_pos (by omega : x.t < ((n + 1 : Nat) : Int))]
      by_cases h2 : x.f < (n : Int)
      · rw [if_pos h2, if_pos (by omega)]; grind
      · rw [if_neg h2, if_neg (by omega)]; grind
    · rw [if_neg h1]
      by_cases h3 : (n : Int) = x.f
      · rw [if_pos h3, if_neg (by omega : ¬ x.f < (n : Int)), if_pos (by omega : x.f < ((n + 1 : Nat) : Int))]
        by_cases h2 : x.t < (n : Int)
        · rw [if_pos h2, if_pos (by omega)]; grind
        · rw [if_neg h2, if_neg (by omega)]; grind
      · rw [if_neg h3]
        have e1 : (x.t < ((n + 1 : Nat) : Int)) = (x.t < (n : Int)) := by apply propext; omega
        have e2 : (x.f < ((n + 1 : Nat) : Int)) = (x.f < (n : Int)) := by apply propext; omega
        simp only [e1, e2]; grind
theorem upto_sumA (m : Int) : ∀ (l : List Debt), (∀ x ∈ l, okD m x = true) → ∀ n : Nat, m = n → upto (fun k => sumA (k : Nat) l) n = 2 * total (l.map Debt.amt)
  | [], _, n, _ => by rw [upto_zero (fun k => sumA (k : Nat) []) (fun _ => rfl)]; show (0 : Rat) = 2 * 0; grind
  | x :: l, h, n, hm => by
    obtain ⟨h1, h2, h3, _⟩ := okD_iff.1 (h x (by simp))
    have e : (fun k : Nat => sumA (k : Nat) (x :: l)) = fun k : Nat => touch (k : Nat) x + sumA (k : Nat) l := rfl
    rw [e, upto_add, upto_touch x h3 h1.1 h2.1, upto_sumA m l (fun y hy => h y (by simp [hy])) n hm, if_pos (by omega), if_pos (by omega)]
    show _ = 2 * (x.amt + total (l.map Debt.amt))
    grind
theorem sum_touch (k : Int) : ∀ (l : List Debt), (∀ x ∈ l, 0 ≤ x.amt) → ab (sumR (sgnP k) l) ≤ sumA k l
  | [], _ => by unfold sumR sumA ab; grind
  | x :: l, h => by
    have ih := sum_touch k l (fun y hy => h y (by simp [hy]))
    have h0 := h x (by simp)
    have h1 := ab_add (sg (sgnP k x) x.amt) (sumR (sgnP k) l)
    have h2 : ab (sg (sgnP k x) x.amt) ≤ touch k x := by
      rw [sg_pos]; unfold touch ab
      split
      · split <;> grind
      · split
        · split <;> grind
        · split <;> grind
    unfold sumR sumA
    exact Rat.le_trans h1 (by grind)
theorem posL_ab {l : List Debt} : ∀ {n : Nat} {ps : List Rat}, posL l n = some ps → total (ps.map ab) = upto (fun k => ab (sumR (sgnP (k : Nat)) l)) n
  | 0, ps, h => by injection h with h; subst h; rfl
  | n + 1, ps, h => by
    unfold posL at h
    cases h1 : posL l n with
    | none => rw [h1] at h; cases h
    | some qs =>
      rw [h1] at h
      cases h2 : pos l n with
      | none => rw [h2] at h; cases h
      | some r =>
        rw [h2] at h; injection h with h; subst h
        have e := sumO_exact h2
        rw [List.map_append, total_append, posL_ab h1]
        show upto _ n + (ab r + 0) = upto _ n + ab (sumR (sgnP (n : Nat)) l)
        rw [show r = sumR (sgnP (n : Nat)) l by grind]; grind
theorem pos_le {l : List Debt} {n : Nat} {ps : List Rat} (hv : valid n l = true) (hp : posL l n = some ps) : total (ps.map ab) ≤ 2 * total (l.map Debt.amt) := by
  obtain ⟨h1, h2, h3⟩ := valid_iff.1 hv
  rw [posL_ab hp, ← upto_sumA n l h3 n rfl]
  exact upto_le _ _ (fun k => sum_touch k l (fun x hx => Rat.le_of_lt (amt_pos (h3 x hx)))) n
/-- The sum of absolute values: none if it leaves the range. -/
def sumT : List Rat → Rat → Option Rat
  | [], r => some r
  | x :: l, r => if fits (r + ab x) = true then sumT l (r + ab x) else none
theorem sumT_exact : ∀ {l : List Rat} {r r' : Rat}, sumT l r = some r' → r' = r + total (l.map ab)
  | [], r, r', h => by injection h with h; subst h; show r = r + 0; grind
  | x :: l, r, r', h => by
    unfold sumT at h
    split at h
    · have := sumT_exact h
      show r' = r + (ab x + total (l.map ab))
      grind
    · cases h
theorem sumT_fits : ∀ {l : List Rat} {r r' : Rat}, fits r = true → sumT l r = some r' → fits r' = true
  | [], r, r', hr, h => by injection h with h; subst h; exact hr
  | x :: l, r, r', _, h => by
    unfold sumT at h
    split at h
    · rename_i hf; exact sumT_fits hf h
    · cases h
theorem total_amt_ab : ∀ {l : List Debt}, (∀ x ∈ l, 0 ≤ x.amt) → total ((l.map Debt.amt).map ab) = total (l.map Debt.amt)
  | [], _ => rfl
  | x :: l, h => by
    show ab x.amt + total ((l.map Debt.amt).map ab) = x.amt + total (l.map Debt.amt)
    rw [total_amt_ab (fun y hy => h y (by simp [hy])), ab_pos (h x (by simp))]
end Go.Proofs.Ytgggekjhfdkgkaa.Nt
namespace Go.Proofs.Ytgggekjhfdkgkaa.Ab
open Go
def totR (o : Option Rat) : D.Ratio × Bool := match o with | some r => (ofQ r, true) | none => (⟨0, 0⟩, false)
theorem g_Total (qs : List Rat) (hl : qs.length ≤ 1000) (hf : ∀ q ∈ qs, Rt.fits q = true) : g_estoppelref42_Total (qs.map ofQ) = some (totR (Nt.sumT qs 0)) := by
  unfold g_estoppelref42_Total g_estoppelref42_Zero
  simp only [Option.bind_some]
  rw [range_eq (σ := D.Ratio × Int) (ρ := D.Ratio ⊕ (D.Ratio × Bool)) (fun z => z.2) qs.length (fun i z => ∃ r : Rat, Rt.fits r = true ∧ z.1 = ofQ r ∧ Nt.sumT (qs.drop i) r = Nt.sumT qs 0)
      (match Nt.sumT qs 0 with | some r => .inl (ofQ r) | none => .inr (⟨0, 0⟩, false))
      (fun i z hi hz ⟨r, hr, h1, hs⟩ => by
        obtain ⟨z1, z3⟩ := z
        simp only at hz h1; subst hz; subst h1
        have hd : qs.drop i = qs[i] :: qs.drop (i + 1) := List.drop_eq_getElem_cons hi
        have hx := hf qs[i] (List.getElem_mem hi)
        have hg : getI (qs.map ofQ) (i : Int) = some (ofQ qs[i]) := by rw [getI_nat, List.getElem?_map, List.getElem?_eq_getElem hi]; rfl
        have hn : (if (decide ((ofQ qs[i]).Num < 0)) = true then (some (ofQ (-qs[i]))).bind fun x => some (.inl x) else some (.inl (ofQ qs[i])) : Option (D.Ratio ⊕ ((D.Ratio × Int) ⊕ (D.Ratio ⊕ (D.Ratio × Bool))))) = some (.inl (ofQ (Nt.ab qs[i]))) := by
          have e : decide ((ofQ qs[i]).Num < 0) = decide (qs[i] < 0) := by
            unfold ofQ; rw [decide_eq_decide]
            have h := Rat.num_nonneg (q := qs[i])
            have h2 : ¬ (0 ≤ qs[i].num) ↔ ¬ (0 ≤ qs[i]) := not_congr h
            rw [Int.not_le, Rat.not_le] at h2; exact h2
          rw [e]; unfold Nt.ab
          by_cases c : qs[i] < 0
          · simp [c]
          · simp [c]
        have fa : Rt.fits (Nt.ab qs[i]) = true := by unfold Nt.ab; split; exact Nt.fits_neg hx; exact hx
        simp only [List.length_map, lt_dec hi, if_true, hg, Option.bind_some, r_minus_q hx] at hn ⊢
        rw [hn]
        simp only [bindF_l, r_add_q hr fa, Option.bind_some, asR_fit]
        rw [inc i (by omega)]
        by_cases hf' : Rt.fits (r + Nt.ab qs[i]) = true
        · left
          refine ⟨(ofQ (r + Nt.ab qs[i]), ((i + 1 : Nat) : Int)), by simp [hf'], rfl, _, hf', rfl, ?_⟩
          rw [← hs, hd, Nt.sumT, if_pos hf']
        · right
          rw [← hs, hd, Nt.sumT, if_neg hf']
          simp [hf'])
      (fun z hz ⟨r, hr, h1, hs⟩ => by
        rw [List.drop_eq_nil_of_le (Nat.le_refl _)] at hs
        rw [← hs]
        simp [hz, Nt.sumT, h1]) (i := 0) rfl ⟨0, Nt.zero_fits, rfl, rfl⟩ (by omega) (by omega)]
  cases Nt.sumT qs 0 with
  | none => rfl
  | some r => rfl
theorem g_Amounts (l : List D.Debt) (hl : l.length ≤ 1000) : g_estoppelref42_Amounts l = some (l.map (·.Amount)) := by
  unfold g_estoppelref42_Amounts
  rw [range_eq (σ := List D.Ratio × Int) (ρ := List D.Ratio ⊕ List D.Ratio) (fun s => s.2) l.length (fun i s => s.1 = (l.take i).map (·.Amount)) (.inl (l.map (·.Amount)))
    (fun i s hi hs h1 => by
      obtain ⟨s1, s2⟩ := s
      simp only at hs h1; subst hs; subst h1
      left
      have ha : appO 16 ((l.take i).map (·.Amount)) [l[i].Amount] = some ((l.take i).map (·.Amount) ++ [l[i].Amount]) := by
        unfold appO; rw [if_pos (by simp; omega)]
      simp only [lt_dec hi, if_true, getI_nat, List.getElem?_eq_getElem hi, Option.bind_some, ha]
      rw [inc i (by omega)]
      exact ⟨_, rfl, rfl, by rw [List.take_succ_eq_append_getElem hi, List.map_append]; rfl⟩)
    (fun s hs h1 => by
      obtain ⟨s1, s2⟩ := s
      simp only at hs h1; subst hs; subst h1
      simp) (i := 0) rfl rfl (by omega) (by omega)]
  rfl
theorem ofQ_val {n d : Int} (h : Rt.ok n d = true) : ofQ (Rt.val n d) = ⟨n, d⟩ := by
  obtain ⟨e1, e2⟩ := Rt.val_eq h
  unfold ofQ; rw [e1, e2]
theorem less_tail (a c b : Option Rat) (fa : ∀ r, a = some r → Rt.fits r = true) (fb : ∀ r, b = some r → Rt.fits r = true) (fc : ∀ r, c = some r → Rt.fits r = true) (h1 : ∀ x y, a = some x → c = some y → 2 * x = y) (h2 : ∀ x y, a = some x → b = some y → x ≤ y) (A C B : D.Ratio × Bool) (hA : A = totR a) (hC : C = totR c) (hB : B = totR b) :
  ((g_ratio_Div C.1 (D.Ratio.mk 2 1)).bind fun q =>
  if (!A.2) = true then
  some true
  else
  if (!C.2) = true then
  if (!B.2) = true then
  some true
  else
  (g_ratio_Cmp A.1 B.1).bind fun x =>
  some (decide (x ≤ 0))
  else
  if (q.2 != 0) = true then
  if (!B.2) = true then
  some true
  else
  (g_ratio_Cmp A.1 B.1).bind fun x =>
  some (decide (x ≤ 0))
  else
  if (decide (A.1 = q.1)) = true then
  if (!B.2) = true then
  some true
  else
  (g_ratio_Cmp A.1 B.1).bind fun x =>
  some (decide (x ≤ 0))
  else
  some false) = some true := by
  have i0 : i64B C.1.Num ∧ i64B C.1.Den := by
    rw [hC]
    cases c with
    | none => exact ⟨by decide, by decide⟩
    | some r => have := okQ (fc r rfl); exact ⟨this.1, this.2.1⟩
  rw [g_Div C.1 ⟨2, 1⟩ i0.1 i0.2 (by decide) (by decide), Option.bind_some]
  cases a with
  | none => simp [hA, totR]
  | some x =>
  have hx := fa x rfl
  have hcmp : (if (!B.2) = true then some true else (g_ratio_Cmp A.1 B.1).bind fun x => some (decide (x ≤ 0))) = some true := by
    cases b with
    | none => simp [hB, totR]
    | some y =>
      have hy := fb y rfl
      have hle := h2 x y rfl rfl
      have : Nt.cmpR x y ≤ 0 := by
        unfold Nt.cmpR
        split
        · decide
        · rw [if_neg (Rat.not_lt.2 hle)]; decide
      subst hA; subst hB
      simp only [totR, Bool.not_true, Bool.false_eq_true, if_false, cmp_q hx hy, Option.bind_some, this, decide_true]
  have hA2 : A.2 = true := by rw [hA]; rfl
  rw [hcmp, hA2]
  simp only [Bool.not_true, Bool.false_eq_true, if_false]
  cases c with
  | none => simp [hC, totR]
  | some y =>
    have hy := fc y rfl
    subst hC
    have e1 : Rt.ok (ofQ y).Num (ofQ y).Den = true := Rt.ok_rat hy
    have e2 : Rt.val (ofQ y).Num (ofQ y).Den = y := Rt.val_rat y
    have hxy : y * Rat.divInt 1 2 = x := by
      rw [← h1 x y rfl rfl]
      have : Rat.divInt 1 2 = (1 : Rat) / 2 := by rw [Rat.divInt_eq_div]; rfl
      rw [this]; grind
    have e3 : (asR (if Rt.ok (totR (some y)).1.Num (totR (some y)).1.Den = true then Rt.fit (Rt.val (totR (some y)).1.Num (totR (some y)).1.Den * Rat.divInt 1 2) else (0, 0, 1))) = (ofQ x, 0) := by
      show (asR (if Rt.ok (ofQ y).Num (ofQ y).Den = true then Rt.fit (Rt.val (ofQ y).Num (ofQ y).Den * Rat.divInt 1 2) else (0, 0, 1))) = (ofQ x, 0)
      rw [if_pos e1, e2, hxy, asR_fit, if_pos hx]
    have e4 : (totR (some y)).2 = true := rfl
    have e5 : A.1 = ofQ x := by rw [hA]; rfl
    rw [e3, e4, e5]
    simp
theorem less_true (m : Int) (l : List D.Debt) (h : ∀ x ∈ l, i64D x) : g_estoppellaw42_NettingLess m l = some true := by
  unfold g_estoppellaw42_NettingLess
  rw [head_true, Option.bind_some]
  by_cases h4 : (l.length : Int) > 400
  · rw [if_pos (decide_eq_true h4)]
  rw [if_neg (by simpa using h4)]
  rw [g_nPositions m l h, Option.bind_some, g_nNet m l h, Option.bind_some]
  cases hv : Nt.valid m (l.map toN)
  · unfold posR netR; rw [hv]; rfl
  have h12 := (Nt.valid_iff.1 hv).1
  obtain ⟨_, hlen, hok⟩ := okL hv
  obtain ⟨n, rfl⟩ : ∃ n : Nat, m = n := ⟨m.toNat, by omega⟩
  cases hp : Nt.posL (l.map toN) n with
  | none => unfold posR; rw [if_pos hv]; simp only [Int.toNat_natCast, hp]; rfl
  | some ps =>
  have eP : posR n (l.map toN) = (ps.map ofQ, 0) := by unfold posR; rw [if_pos hv]; simp only [Int.toNat_natCast, hp]
  cases hs : Nt.settle (n + 1) ps with
  | none =>
    have eN : netR n (l.map toN) = ([], 2) := by unfold netR; rw [if_pos hv]; simp only [Int.toNat_natCast, hp, hs]
    rw [eP, eN]; rfl
  | some out =>
  have eN : netR n (l.map toN) = (out.map ofD, 0) := by unfold netR; rw [if_pos hv]; simp only [Int.toNat_natCast, hp, hs]
  rw [eP, eN]
  have hnet : Nt.netO (l.map toN) n = some out := by unfold Nt.netO; rw [hp]; exact hs
  have hvo := Nt.net_valid hv hp hnet
  have hlo := Nt.net_len hv hp hnet
  obtain ⟨_, _, oko⟩ := Nt.valid_iff.1 hvo
  obtain ⟨_, _, okl⟩ := Nt.valid_iff.1 hv
  simp only [bne_self_eq_false, Bool.false_eq_true, if_false, bindF_l]
  have a1 : (out.map ofD).map (·.Amount) = (out.map Nt.Debt.amt).map ofQ := by
    rw [List.map_map, List.map_map]
    apply List.map_congr_left
    intro x hx
    obtain ⟨_, _, _, o, _⟩ := Nt.okD_iff.1 (oko x hx)
    exact (ofQ_val o).symm
  have a2 : l.map (·.Amount) = ((l.map toN).map Nt.Debt.amt).map ofQ := by
    rw [List.map_map, List.map_map]
    apply List.map_congr_left
    intro x hx
    exact (ofQ_val (hok x hx)).symm
  rw [g_Amounts _ (by rw [List.length_map]; omega), Option.bind_some, a1, g_Total _ (by rw [List.length_map]; omega) (fun q hq => by
      obtain ⟨x, hx, rfl⟩ := List.mem_map.1 hq
      obtain ⟨_, _, _, o, _⟩ := Nt.okD_iff.1 (oko x hx)
      exact Rt.fits_val o), Option.bind_some]
  rw [g_Total ps (by have := Nt.posL_len hp; omega) (Nt.posL_fits hp), Option.bind_some]
  rw [g_Amounts _ (by omega), Option.bind_some, a2, g_Total _ (by simp; omega) (fun q hq => by
      obtain ⟨x, hx, rfl⟩ := List.mem_map.1 hq
      obtain ⟨_, _, _, o, _⟩ := Nt.okD_iff.1 (okl x hx)
      exact Rt.fits_val o), Option.bind_some]
  have p1 := Nt.total_amt_ab (l := out) (fun x hx => Rat.le_of_lt (Nt.amt_pos (oko x hx)))
  have p2 := Nt.total_amt_ab (l := l.map toN) (fun x hx => Rat.le_of_lt (Nt.amt_pos (okl x hx)))
  have q1 := Nt.net_half hv hp hs
  have q2 := Nt.pos_le hv hp
  refine less_tail (Nt.sumT (out.map Nt.Debt.amt) 0) (Nt.sumT ps 0) (Nt.sumT ((l.map toN).map Nt.Debt.amt) 0) (fun r hr => Nt.sumT_fits Nt.zero_fits hr) (fun r hr => Nt.sumT_fits Nt.zero_fits hr) (fun r hr => Nt.sumT_fits Nt.zero_fits hr) (fun x y hx hy => ?_) (fun x y hx hy => ?_) _ _ _ rfl rfl rfl
  · have := Nt.sumT_exact hx; have := Nt.sumT_exact hy; grind
  · have := Nt.sumT_exact hx; have := Nt.sumT_exact hy; grind
end Go.Proofs.Ytgggekjhfdkgkaa.Ab
