/- Plain netting of debts: positions, pairs and settling with rational numbers; no program in sight. -/
import Derived.Test.YtgggekjhfdkgkaaRatM
namespace Go.Proofs.Ytgggekjhfdkgkaa.Nt
open Rt

/-- A debt: from, to, numerator, denominator. -/
structure Debt where
  f : Int
  t : Int
  n : Int
  d : Int
  deriving DecidableEq
def Debt.amt (x : Debt) : Rat := val x.n x.d
def okD (m : Int) (x : Debt) : Bool := decide (0 ≤ x.f ∧ x.f < m) && decide (0 ≤ x.t ∧ x.t < m) && decide (x.f ≠ x.t) && Rt.ok x.n x.d && decide (0 < x.n)
def valid (m : Int) (l : List Debt) : Bool := decide (1 ≤ m ∧ m ≤ 12) && decide (l.length ≤ 400) && l.all (okD m)
theorem okD_iff {m : Int} {x : Debt} : okD m x = true ↔ (0 ≤ x.f ∧ x.f < m) ∧ (0 ≤ x.t ∧ x.t < m) ∧ x.f ≠ x.t ∧ Rt.ok x.n x.d = true ∧ 0 < x.n := by
  unfold okD; simp only [Bool.and_eq_true, decide_eq_true_eq, and_assoc]
theorem valid_iff {m : Int} {l : List Debt} : valid m l = true ↔ (1 ≤ m ∧ m ≤ 12) ∧ l.length ≤ 400 ∧ ∀ x ∈ l, okD m x = true := by
  unfold valid; simp only [Bool.and_eq_true, decide_eq_true_eq, List.all_eq_true, and_assoc]
theorem amt_pos {m : Int} {x : Debt} (h : okD m x = true) : 0 < x.amt := by
  obtain ⟨_, _, _, h4, h5⟩ := okD_iff.1 h
  obtain ⟨e1, _⟩ := val_eq h4
  unfold Debt.amt
  rw [Rat.lt_iff, e1]; simp; exact h5

/-- What one debt adds to a sum. -/
def sg (s : Int) (v : Rat) : Rat := if s = 1 then v else if s = -1 then -v else 0
/-- The sum of debts with signs, from r on: none if it leaves the range. -/
def sumO (s : Debt → Int) : List Debt → Rat → Option Rat
  | [], r => some r
  | x :: l, r => if fits (r + sg (s x) x.amt) = true then sumO s l (r + sg (s x) x.amt) else none
/-- The exact sum. -/
def sumR (s : Debt → Int) : List Debt → Rat
  | [] => 0
  | x :: l => sg (s x) x.amt + sumR s l
theorem sumO_exact {s : Debt → Int} : ∀ {l : List Debt} {r r' : Rat}, sumO s l r = some r' → r' = r + sumR s l
  | [], r, r', h => by injection h with h; subst h; unfold sumR; grind
  | x :: l, r, r', h => by
    unfold sumO at h
    split at h
    · have := sumO_exact h; unfold sumR; grind
    · cases h
theorem sumO_fits {s : Debt → Int} : ∀ {l : List Debt} {r r' : Rat}, fits r = true → sumO s l r = some r' → fits r' = true
  | [], r, r', hr, h => by injection h with h; subst h; exact hr
  | x :: l, r, r', _, h => by
    unfold sumO at h
    split at h
    · rename_i hf; exact sumO_fits hf h
    · cases h
/-- The result of a sum as three numbers. -/
def res (o : Option Rat) : Int × Int × Int := match o with | some r => (r.num, (r.den : Int), 0) | none => (0, 0, 2)
theorem sumO_step {s : Debt → Int} {l l' : List Debt} {k : Nat} {x : Debt} {r : Rat} {v : Int} (hd : l.drop k = x :: l') (hv : s x = v) (hf : fits (r + sg v x.amt) = true) : sumO s (l.drop k) r = sumO s l' (r + sg v x.amt) := by
  rw [hd, sumO, hv, if_pos hf]
theorem sumO_stop {s : Debt → Int} {l l' : List Debt} {k : Nat} {x : Debt} {r : Rat} {v : Int} (hd : l.drop k = x :: l') (hv : s x = v) (hf : ¬ fits (r + sg v x.amt) = true) : sumO s (l.drop k) r = none := by
  rw [hd, sumO, hv, if_neg hf]
theorem sumO_skip {s : Debt → Int} {l l' : List Debt} {k : Nat} {x : Debt} {r : Rat} (hd : l.drop k = x :: l') (h1 : ¬ s x = 1) (h2 : ¬ s x = -1) (hf : fits r = true) : sumO s (l.drop k) r = sumO s l' r := by
  have e : r + sg (s x) x.amt = r := by unfold sg; rw [if_neg h1, if_neg h2]; grind
  rw [hd, sumO, e, if_pos hf]
theorem add_sg1 {x : Debt} {r : Rat} (hf : fits r = true) (hx : ok x.n x.d = true) : add r.num r.den x.n x.d = fit (r + sg 1 x.amt) := by
  unfold add; rw [if_pos ⟨ok_rat hf, hx⟩, val_rat]; rfl
theorem add_sgm {x : Debt} {r : Rat} (hf : fits r = true) (hx : ok x.n x.d = true) : add r.num r.den (-x.n) x.d = fit (r + sg (-1) x.amt) := by
  unfold add; rw [if_pos ⟨ok_rat hf, by rw [ok_neg]; exact hx⟩, val_rat, val_neg]; rfl
def sgnP (p : Int) (x : Debt) : Int := if p = x.t then 1 else if p = x.f then -1 else 0
def sgnQ (a b : Int) (x : Debt) : Int := if x.f = a ∧ x.t = b then 1 else if x.f = b ∧ x.t = a then -1 else 0
def pos (l : List Debt) (p : Int) : Option Rat := sumO (sgnP p) l 0
def pair (l : List Debt) (a b : Int) : Option Rat := sumO (sgnQ a b) l 0
/-- The positions of the first k parties. -/
def posL (l : List Debt) : Nat → Option (List Rat)
  | 0 => some []
  | k + 1 => match posL l k with
    | none => none
    | some ps => match pos l k with
      | none => none
      | some r => some (ps ++ [r])
theorem zero_fits : fits 0 = true := by decide
theorem res_zero_num : (0 : Rat).num = 0 ∧ ((0 : Rat).den : Int) = 1 := by decide
end Go.Proofs.Ytgggekjhfdkgkaa.Nt
