/- Plain settling of positions: the greatest creditor is paid by the greatest debtor. -/
import Derived.Test.YtgggekjhfdkgkaaNetK
namespace Go.Proofs.Ytgggekjhfdkgkaa.Nt
open Rt

def dmin (ps : List Rat) : Nat := extK (fun x => decide (x < 0)) ps ps.length
def cmax (ps : List Rat) : Nat := extK (fun x => decide (0 < x)) ps ps.length
def amtX (ps : List Rat) : Rat := if -(ps.getD (dmin ps) 0) < ps.getD (cmax ps) 0 then -(ps.getD (dmin ps) 0) else ps.getD (cmax ps) 0
def nz (ps : List Rat) : Nat := ps.countP (fun r => decide (r ≠ 0))
def next (ps : List Rat) : List Rat := (ps.set (dmin ps) (ps.getD (dmin ps) 0 + amtX ps)).set (cmax ps) (ps.getD (cmax ps) 0 - amtX ps)
def pay (ps : List Rat) : Debt := ⟨(dmin ps : Nat), (cmax ps : Nat), (amtX ps).num, ((amtX ps).den : Int)⟩
def goes (ps : List Rat) : Prop := fits (ps.getD (dmin ps) 0 + amtX ps) = true ∧ fits (ps.getD (cmax ps) 0 - amtX ps) = true
instance (ps : List Rat) : Decidable (goes ps) := by unfold goes; infer_instance
def settle : Nat → List Rat → Option (List Debt)
  | 0, _ => none
  | f + 1, ps => if ps.getD (dmin ps) 0 = 0 then some [] else if goes ps then (settle f (next ps)).map (pay ps :: ·) else none
/-- What the debts among n parties are netted to. -/
def netO (l : List Debt) (n : Nat) : Option (List Debt) := (posL l n).bind (settle (n + 1))
def total (ps : List Rat) : Rat := ps.foldr (· + ·) 0
structure Good (n : Nat) (ps : List Rat) : Prop where
  len : ps.length = n
  pos : 1 ≤ n
  sum : total ps = 0
  fit : ∀ r ∈ ps, fits r = true

theorem extK_spec_min (ps : List Rat) : ∀ k, k ≤ ps.length → ∀ j, j < k → ps.getD (extK (fun x => decide (x < 0)) ps k) 0 ≤ ps.getD j 0
  | 0, _, j, hj => absurd hj (by omega)
  | k + 1, hk, j, hj => by
    have ih := extK_spec_min ps k (by omega)
    unfold extK cmpR
    by_cases h1 : ps.getD k 0 < ps.getD (extK (fun x => decide (x < 0)) ps k) 0
    · simp only [h1, if_true, if_pos, show decide ((-1 : Int) < 0) = true from rfl]
      by_cases e : j = k
      · subst e; grind
      · have := ih j (by omega); grind
    · have e : decide ((if ps.getD k 0 < ps.getD (extK (fun x => decide (x < 0)) ps k) 0 then (-1 : Int) else if ps.getD (extK (fun x => decide (x < 0)) ps k) 0 < ps.getD k 0 then 1 else 0) < 0) = false := by
        rw [if_neg h1]; split <;> rfl
      rw [if_neg (by rw [e]; decide)]
      by_cases e : j = k
      · subst e; grind
      · exact ih j (by omega)
theorem extK_spec_max (ps : List Rat) : ∀ k, k ≤ ps.length → ∀ j, j < k → ps.getD j 0 ≤ ps.getD (extK (fun x => decide (0 < x)) ps k) 0
  | 0, _, j, hj => absurd hj (by omega)
  | k + 1, hk, j, hj => by
    have ih := extK_spec_max ps k (by omega)
    unfold extK cmpR
    by_cases h1 : ps.getD (extK (fun x => decide (0 < x)) ps k) 0 < ps.getD k 0
    · have h2 : ¬ ps.getD k 0 < ps.getD (extK (fun x => decide (0 < x)) ps k) 0 := by grind
      have e : decide (0 < (if ps.getD k 0 < ps.getD (extK (fun x => decide (0 < x)) ps k) 0 then (-1 : Int) else if ps.getD (extK (fun x => decide (0 < x)) ps k) 0 < ps.getD k 0 then 1 else 0)) = true := by
        rw [if_neg h2, if_pos h1]; rfl
      rw [if_pos e]
      by_cases e : j = k
      · subst e; grind
      · have := ih j (by omega); grind
    · have e : decide (0 < (if ps.getD k 0 < ps.getD (extK (fun x => decide (0 < x)) ps k) 0 then (-1 : Int) else if ps.getD (extK (fun x => decide (0 < x)) ps k) 0 < ps.getD k 0 then 1 else 0)) = false := by
        rw [if_neg h1]; split <;> rfl
      rw [if_neg (by rw [e]; decide)]
      by_cases e : j = k
      · subst e; grind
      · exact ih j (by omega)
theorem total_append (a b : List Rat) : total (a ++ b) = total a + total b := by
  induction a with
  | nil => show total b = 0 + total b; grind
  | cons x a ih => show x + total (a ++ b) = (x + total a) + total b; rw [ih]; grind
theorem total_set (ps : List Rat) (k : Nat) (hk : k < ps.length) (v : Rat) : total (ps.set k v) = total ps - ps.getD k 0 + v := by
  induction ps generalizing k with
  | nil => simp at hk
  | cons x ps ih =>
    cases k with
    | zero => show v + total ps = (x + total ps) - x + v; grind
    | succ k =>
      have h := ih k (by simpa using hk)
      show x + total (ps.set k v) = (x + total ps) - ps.getD k 0 + v
      rw [h]; grind
theorem total_nonneg {ps : List Rat} (h : ∀ k, k < ps.length → 0 ≤ ps.getD k 0) (hz : total ps = 0) : ∀ k, k < ps.length → ps.getD k 0 = 0 := by
  have hpos : ∀ (qs : List Rat), (∀ k, k < qs.length → 0 ≤ qs.getD k 0) → 0 ≤ total qs := by
    intro qs
    induction qs with
    | nil => intro _; exact (by decide : (0 : Rat) ≤ 0)
    | cons x qs ih =>
      intro h
      have h0 : 0 ≤ x := h 0 (by simp)
      have h1 := ih (fun k hk => h (k + 1) (by simpa using hk))
      show 0 ≤ x + total qs; grind
  induction ps with
  | nil => intro k hk; simp at hk
  | cons x qs ih =>
    have h0 : 0 ≤ x := h 0 (by simp)
    have hq : ∀ k, k < qs.length → 0 ≤ qs.getD k 0 := fun k hk => h (k + 1) (by simpa using hk)
    have h1 := hpos qs hq
    have h2 : x + total qs = 0 := hz
    intro k hk
    cases k with
    | zero => show x = 0; grind
    | succ k => exact ih hq (by grind) k (by simpa using hk)
theorem total_nonpos {ps : List Rat} (h : ∀ k, k < ps.length → ps.getD k 0 ≤ 0) (hz : total ps = 0) : ∀ k, k < ps.length → ps.getD k 0 = 0 := by
  have hneg : ∀ (qs : List Rat), (∀ k, k < qs.length → qs.getD k 0 ≤ 0) → total qs ≤ 0 := by
    intro qs
    induction qs with
    | nil => intro _; exact (by decide : (0 : Rat) ≤ 0)
    | cons x qs ih =>
      intro h
      have h0 : x ≤ 0 := h 0 (by simp)
      have h1 := ih (fun k hk => h (k + 1) (by simpa using hk))
      show x + total qs ≤ 0; grind
  induction ps with
  | nil => intro k hk; simp at hk
  | cons x qs ih =>
    have h0 : x ≤ 0 := h 0 (by simp)
    have hq : ∀ k, k < qs.length → qs.getD k 0 ≤ 0 := fun k hk => h (k + 1) (by simpa using hk)
    have h1 := hneg qs hq
    have h2 : x + total qs = 0 := hz
    intro k hk
    cases k with
    | zero => show x = 0; grind
    | succ k => exact ih hq (by grind) k (by simpa using hk)
theorem Good.dlt {n : Nat} {ps : List Rat} (h : Good n ps) : dmin ps < n := by
  have := extK_lt (fun x => decide (x < 0)) ps n h.pos ps.length (by rw [h.len]; exact Nat.le_refl _); exact this
theorem Good.clt {n : Nat} {ps : List Rat} (h : Good n ps) : cmax ps < n := by
  have := extK_lt (fun x => decide (0 < x)) ps n h.pos ps.length (by rw [h.len]; exact Nat.le_refl _); exact this
theorem Good.dle {n : Nat} {ps : List Rat} (h : Good n ps) (j : Nat) (hj : j < n) : ps.getD (dmin ps) 0 ≤ ps.getD j 0 := extK_spec_min ps ps.length (Nat.le_refl _) j (by rw [h.len]; exact hj)
theorem Good.cle {n : Nat} {ps : List Rat} (h : Good n ps) (j : Nat) (hj : j < n) : ps.getD j 0 ≤ ps.getD (cmax ps) 0 := extK_spec_max ps ps.length (Nat.le_refl _) j (by rw [h.len]; exact hj)
theorem Good.done {n : Nat} {ps : List Rat} (h : Good n ps) (hd : ps.getD (dmin ps) 0 = 0) : ps.getD (cmax ps) 0 = 0 :=
  total_nonneg (fun k hk => by have := h.dle k (by rw [← h.len]; exact hk); rw [hd] at this; exact this) h.sum _ (by rw [h.len]; exact h.clt)
theorem Good.neg {n : Nat} {ps : List Rat} (h : Good n ps) (hd : ps.getD (dmin ps) 0 ≠ 0) : ps.getD (dmin ps) 0 < 0 ∧ 0 < ps.getD (cmax ps) 0 := by
  constructor
  · apply Classical.byContradiction; intro hn
    exact hd (total_nonneg (fun k hk => by have := h.dle k (by rw [← h.len]; exact hk); grind) h.sum _ (by rw [h.len]; exact h.dlt))
  · apply Classical.byContradiction; intro hn
    exact hd (total_nonpos (fun k hk => by have := h.cle k (by rw [← h.len]; exact hk); grind) h.sum _ (by rw [h.len]; exact h.dlt))
theorem Good.ne {n : Nat} {ps : List Rat} (h : Good n ps) (hd : ps.getD (dmin ps) 0 ≠ 0) : dmin ps ≠ cmax ps := fun e => by
  have := h.neg hd; rw [e] at this; grind
theorem getD_set_ne {ps : List Rat} {i j : Nat} (v : Rat) (h : i ≠ j) : (ps.set i v).getD j 0 = ps.getD j 0 := by
  simp [List.getD_eq_getElem?_getD, List.getElem?_set_ne h]
theorem getD_set_self {ps : List Rat} {i : Nat} (v : Rat) (h : i < ps.length) : (ps.set i v).getD i 0 = v := by
  simp [List.getD_eq_getElem?_getD, h]
theorem getD_mem {ps : List Rat} {i : Nat} (h : i < ps.length) : ps.getD i 0 ∈ ps := by
  have e : ps.getD i 0 = ps[i] := by simp [List.getD_eq_getElem?_getD, h]
  rw [e]; exact List.getElem_mem h
theorem Good.next {n : Nat} {ps : List Rat} (h : Good n ps) (hd : ps.getD (dmin ps) 0 ≠ 0) (hg : goes ps) : Good n (Nt.next ps) := by
  have hl := h.len
  have h1 := h.dlt
  have h2 := h.clt
  have hne := h.ne hd
  refine ⟨by unfold Nt.next; simp [hl], h.pos, ?_, ?_⟩
  · unfold Nt.next
    rw [total_set _ _ (by rw [List.length_set, hl]; exact h2), total_set _ _ (by rw [hl]; exact h1), getD_set_ne _ hne]
    have := h.sum; grind
  · intro r hr
    unfold Nt.next at hr
    rcases List.mem_or_eq_of_mem_set hr with hr | rfl
    · rcases List.mem_or_eq_of_mem_set hr with hr | rfl
      · exact h.fit r hr
      · exact hg.1
    · exact hg.2
theorem nz_set (ps : List Rat) (k : Nat) (hk : k < ps.length) (v : Rat) : nz (ps.set k v) + (if ps.getD k 0 = 0 then 0 else 1) = nz ps + (if v = 0 then 0 else 1) := by
  induction ps generalizing k with
  | nil => simp at hk
  | cons x ps ih =>
    cases k with
    | zero =>
      simp only [List.set_cons_zero, nz, List.countP_cons, List.getD_cons_zero]
      by_cases h1 : x = 0 <;> by_cases h2 : v = 0 <;> simp [h1, h2]
    | succ k =>
      have h := ih k (by simpa using hk)
      simp only [List.set_cons_succ, nz, List.countP_cons, List.getD_cons_succ] at h ⊢
      omega
theorem Good.less {n : Nat} {ps : List Rat} (h : Good n ps) (hd : ps.getD (dmin ps) 0 ≠ 0) : nz (Nt.next ps) < nz ps := by
  have hl := h.len
  have h1 := h.dlt
  have h2 := h.clt
  have hne := h.ne hd
  have ⟨n1, n2⟩ := h.neg hd
  have hc : ps.getD (cmax ps) 0 ≠ 0 := by grind
  have e1 := nz_set ps (dmin ps) (by rw [hl]; exact h1) (ps.getD (dmin ps) 0 + amtX ps)
  have e2 := nz_set (ps.set (dmin ps) (ps.getD (dmin ps) 0 + amtX ps)) (cmax ps) (by rw [List.length_set, hl]; exact h2) (ps.getD (cmax ps) 0 - amtX ps)
  rw [getD_set_ne _ hne] at e2
  unfold Nt.next
  rw [if_neg hd] at e1
  rw [if_neg hc] at e2
  by_cases hx : -(ps.getD (dmin ps) 0) < ps.getD (cmax ps) 0
  · have ha : ps.getD (dmin ps) 0 + amtX ps = 0 := by unfold amtX; rw [if_pos hx]; grind
    rw [if_pos ha] at e1
    split at e2 <;> omega
  · have ha : ps.getD (cmax ps) 0 - amtX ps = 0 := by unfold amtX; rw [if_neg hx]; grind
    rw [if_pos ha] at e2
    split at e1 <;> omega
theorem nz_le (ps : List Rat) : nz ps ≤ ps.length := List.countP_le_length
theorem fits_neg {r : Rat} (h : fits r = true) : fits (-r) = true := by
  rw [fits_iff] at h ⊢
  have e1 : (-r).num = -r.num := rfl
  have e2 : (-r).den = r.den := rfl
  rw [e1, e2, Int.natAbs_neg]; exact h
theorem Good.fitX {n : Nat} {ps : List Rat} (h : Good n ps) : fits (amtX ps) = true := by
  unfold amtX
  split
  · exact fits_neg (h.fit _ (getD_mem (by rw [h.len]; exact h.dlt)))
  · exact h.fit _ (getD_mem (by rw [h.len]; exact h.clt))
end Go.Proofs.Ytgggekjhfdkgkaa.Nt
