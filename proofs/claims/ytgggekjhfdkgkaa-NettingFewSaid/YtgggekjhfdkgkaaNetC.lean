/- Plain netting between each two parties: the grid of sums and the debts made of it. -/
import Derived.Test.YtgggekjhfdkgkaaNetB
namespace Go.Proofs.Ytgggekjhfdkgkaa.Nt
open Rt

/-- What the grid holds for two parties in the end. -/
def gv (l : List Debt) (n i j : Nat) : Int × Int := if i < j ∧ j < n then (match pair l i j with | some r => pr r | none => (0, 0)) else (0, 0)
/-- The grid before the sum of a and b is taken. -/
def grid (l : List Debt) (n a b : Nat) : List (Int × Int) := (List.range 144).map fun k => if k / 12 < a ∨ k / 12 = a ∧ k % 12 < b then gv l n (k / 12) (k % 12) else (0, 0)
theorem grid_len (l : List Debt) (n a b : Nat) : (grid l n a b).length = 144 := by simp [grid]
theorem grid_get (l : List Debt) (n a b k : Nat) (hk : k < 144) : (grid l n a b)[k]? = some (if k / 12 < a ∨ k / 12 = a ∧ k % 12 < b then gv l n (k / 12) (k % 12) else (0, 0)) := by
  unfold grid; rw [List.getElem?_map, List.getElem?_range hk]; rfl
theorem grid_start (l : List Debt) (n : Nat) : List.replicate 144 ((0 : Int), (0 : Int)) = grid l n 0 1 := by
  apply List.ext_getElem?
  intro k
  by_cases hk : k < 144
  · rw [grid_get _ _ _ _ _ hk, List.getElem?_replicate, if_pos hk]
    split
    · unfold gv; rw [if_neg (by omega)]
    · rfl
  · rw [List.getElem?_eq_none (by simp; omega), List.getElem?_eq_none (by rw [grid_len]; omega)]
theorem grid_row (l : List Debt) (n a b : Nat) (hb : n ≤ b) : grid l n a b = grid l n (a + 1) (a + 2) := by
  apply List.ext_getElem?
  intro k
  by_cases hk : k < 144
  · rw [grid_get _ _ _ _ _ hk, grid_get _ _ _ _ _ hk]
    congr 1
    by_cases h1 : k / 12 < a ∨ k / 12 = a ∧ k % 12 < b
    · rw [if_pos h1]
      by_cases h2 : k / 12 < a + 1 ∨ k / 12 = a + 1 ∧ k % 12 < a + 2
      · rw [if_pos h2]
      · omega
    · rw [if_neg h1]
      by_cases h2 : k / 12 < a + 1 ∨ k / 12 = a + 1 ∧ k % 12 < a + 2
      · rw [if_pos h2]; unfold gv; rw [if_neg (by omega)]
      · rw [if_neg h2]
  · rw [List.getElem?_eq_none (by rw [grid_len]; omega), List.getElem?_eq_none (by rw [grid_len]; omega)]
theorem grid_set (l : List Debt) (n a b : Nat) (r : Rat) (hab : a < b) (hb : b < n) (hn : n ≤ 12) (hr : pair l a b = some r) : (grid l n a b).set (a * 12 + b) (pr r) = grid l n a (b + 1) := by
  have e1 : (a * 12 + b) / 12 = a := by omega
  have e2 : (a * 12 + b) % 12 = b := by omega
  apply List.ext_getElem?
  intro k
  by_cases hk : k < 144
  · by_cases hkk : a * 12 + b = k
    · subst hkk
      rw [List.getElem?_set_self (by rw [grid_len]; exact hk), grid_get _ _ _ _ _ hk, e1, e2, if_pos (by omega)]
      unfold gv; rw [if_pos ⟨hab, hb⟩, hr]
    · rw [List.getElem?_set_ne hkk, grid_get _ _ _ _ _ hk, grid_get _ _ _ _ _ hk]
      congr 1
      by_cases h1 : k / 12 < a ∨ k / 12 = a ∧ k % 12 < b
      · rw [if_pos h1, if_pos (by omega)]
      · rw [if_neg h1, if_neg (by omega)]
  · rw [List.getElem?_eq_none (by rw [List.length_set, grid_len]; omega), List.getElem?_eq_none (by rw [grid_len]; omega)]
/-- The debt that two parties are left with. -/
def dOf (i j : Nat) (q : Int × Int) : List Debt := if 0 < q.1 then [⟨i, j, q.1, q.2⟩] else if q.1 < 0 then [⟨j, i, -q.1, q.2⟩] else []
/-- The debts of the first k places of the grid. -/
def outK (l : List Debt) (n k : Nat) : List Debt := (List.range k).flatMap fun k => dOf (k / 12) (k % 12) (gv l n (k / 12) (k % 12))
theorem outK_next (l : List Debt) (n k : Nat) : outK l n (k + 1) = outK l n k ++ dOf (k / 12) (k % 12) (gv l n (k / 12) (k % 12)) := by
  unfold outK; rw [List.range_succ, List.flatMap_append]; simp
theorem outK_len (l : List Debt) (n : Nat) : ∀ k, (outK l n k).length ≤ k
  | 0 => Nat.le_refl 0
  | k + 1 => by
    have := outK_len l n k
    have hd : ∀ q, (dOf (k / 12) (k % 12) q).length ≤ 1 := fun q => by unfold dOf; split <;> (try split) <;> simp
    rw [outK_next, List.length_append]
    have := hd (gv l n (k / 12) (k % 12))
    omega
/-- Are all sums in range? -/
def pairsB (l : List Debt) (n : Nat) : Bool := (List.range n).all fun a => (List.range n).all fun b => !(decide (a < b)) || (pair l a b).isSome
/-- What the debts among n parties are netted to, each two parties by themselves. -/
def pairsO (l : List Debt) (n : Nat) : Option (List Debt) := if pairsB l n = true then some (outK l n 144) else none
theorem pairsB_iff {l : List Debt} {n : Nat} : pairsB l n = true ↔ ∀ a b, a < b → b < n → (pair l a b).isSome = true := by
  unfold pairsB
  simp only [List.all_eq_true, List.mem_range, Bool.or_eq_true, Bool.not_eq_true', decide_eq_false_iff_not]
  constructor
  · intro h a b hab hb
    rcases h a (by omega) b hb with h | h
    · exact absurd hab h
    · exact h
  · intro h a _ b hb
    by_cases hab : a < b
    · exact .inr (h a b hab hb)
    · exact .inl hab
theorem pairsO_none {l : List Debt} {n a b : Nat} (hab : a < b) (hb : b < n) (h : pair l a b = none) : pairsO l n = none := by
  unfold pairsO; rw [if_neg]; intro hp
  have := pairsB_iff.1 hp a b hab hb; rw [h] at this; cases this
end Go.Proofs.Ytgggekjhfdkgkaa.Nt
