/- Plain positions: they add up to nothing. -/
import Derived.Test.YtgggekjhfdkgkaaNetA
namespace Go.Proofs.Ytgggekjhfdkgkaa.Nt
open Rt

/-- The sum of the first n values. -/
def upto (f : Nat → Rat) : Nat → Rat
  | 0 => 0
  | n + 1 => upto f n + f n
theorem upto_add (f g : Nat → Rat) : ∀ n, upto (fun k => f k + g k) n = upto f n + upto g n
  | 0 => by unfold upto; grind
  | n + 1 => by unfold upto; rw [upto_add f g n]; grind
theorem upto_zero (f : Nat → Rat) (h : ∀ k, f k = 0) : ∀ n, upto f n = 0
  | 0 => rfl
  | n + 1 => by unfold upto; rw [upto_zero f h n, h]; grind
theorem sg_pos (p : Int) (x : Debt) (a : Rat) : sg (sgnP p x) a = if p = x.t then a else if p = x.f then -a else 0 := by
  unfold sgnP sg
  by_cases h1 : p = x.t
  · simp [h1]
  · by_cases h2 : p = x.f
    · rw [if_neg h1, if_pos h2, if_neg h1, if_pos h2, if_neg (by decide), if_pos rfl]
    · rw [if_neg h1, if_neg h2, if_neg h1, if_neg h2, if_neg (by decide), if_neg (by decide)]
theorem upto_sg (x : Debt) (a : Rat) (hne : x.f ≠ x.t) (hf : 0 ≤ x.f) (ht : 0 ≤ x.t) : ∀ n : Nat, upto (fun k => sg (sgnP (k : Nat) x) a) n = (if x.t < n then a else 0) - (if x.f < n then a else 0)
  | 0 => by
    rw [if_neg (by omega), if_neg (by omega)]; unfold upto; grind
  | n + 1 => by
    unfold upto
    rw [upto_sg x a hne hf ht n, sg_pos]
    by_cases h1 : (n : Int) = x.t
    · rw [if_pos h1, if_neg (by omega : ¬ x.t < (n : Int)), if_pos (by omega : x.t < ((n + 1 : Nat) : Int))]
      by_cases h2 : x.f < (n : Int)
      · rw [if_pos h2, if_pos (by omega)]; grind
      · rw [if_neg h2, if_neg (by omega)]; grind
    · rw [if_neg h1]
      by_cases h3 : (n : Int) = x.f
      · rw [if_pos h3, if_neg (by omega : ¬ x.f < (n : Int)), if_pos (by omega : x.f < ((n + 1 : Nat) : Int))]
        by_cases h2 : x.t < (n : Int)
        · rw [if_pos h2, if_pos (by omega)]; grind
        · rw [if_neg h2, if_neg (by omega)]; grind
      · rw [if_neg h3]
        have e1 : (x.t < ((n + 1 : Nat) : Int)) = (x.t < (n : Int)) := by apply propext; omega
        have e2 : (x.f < ((n + 1 : Nat) : Int)) = (x.f < (n : Int)) := by apply propext; omega
        simp only [e1, e2]; grind
theorem upto_sumR (m : Int) : ∀ (l : List Debt), (∀ x ∈ l, okD m x = true) → ∀ n : Nat, m = n → upto (fun k => sumR (sgnP (k : Nat)) l) n = 0
  | [], _, n, _ => upto_zero _ (fun _ => rfl) n
  | x :: l, h, n, hm => by
    obtain ⟨h1, h2, h3, _⟩ := okD_iff.1 (h x (by simp))
    have e : (fun k : Nat => sumR (sgnP (k : Nat)) (x :: l)) = fun k : Nat => sg (sgnP (k : Nat) x) x.amt + sumR (sgnP (k : Nat)) l := rfl
    rw [e, upto_add, upto_sg x _ h3 h1.1 h2.1, upto_sumR m l (fun y hy => h y (by simp [hy])) n hm, if_pos (by omega), if_pos (by omega)]
    grind
theorem posL_total {l : List Debt} : ∀ {n : Nat} {ps : List Rat}, posL l n = some ps → total ps = upto (fun k => sumR (sgnP (k : Nat)) l) n
  | 0, ps, h => by injection h with h; subst h; rfl
  | n + 1, ps, h => by
    unfold posL at h
    cases h1 : posL l n with
    | none => rw [h1] at h; cases h
    | some qs =>
      rw [h1] at h
      cases h2 : pos l n with
      | none => rw [h2] at h; cases h
      | some r =>
        rw [h2] at h; injection h with h; subst h
        have e := sumO_exact h2
        rw [total_append, posL_total h1]
        show upto _ n + (r + 0) = upto _ n + sumR (sgnP (n : Nat)) l
        grind
theorem posL_fits {l : List Debt} : ∀ {n : Nat} {ps : List Rat}, posL l n = some ps → ∀ r ∈ ps, fits r = true
  | 0, ps, h => by injection h with h; subst h; intro r hr; cases hr
  | n + 1, ps, h => by
    unfold posL at h
    cases h1 : posL l n with
    | none => rw [h1] at h; cases h
    | some qs =>
      rw [h1] at h
      cases h2 : pos l n with
      | none => rw [h2] at h; cases h
      | some q =>
        rw [h2] at h; injection h with h; subst h
        intro r hr
        rcases List.mem_append.1 hr with hr | hr
        · exact posL_fits h1 r hr
        · have : r = q := by simpa using hr
          subst this; exact sumO_fits zero_fits h2
theorem good_init {l : List Debt} {n : Nat} {ps : List Rat} (hv : valid n l = true) (h : posL l n = some ps) : Good n ps := by
  obtain ⟨h1, _, h3⟩ := valid_iff.1 hv
  exact ⟨posL_len h, by omega, by rw [posL_total h]; exact upto_sumR n l h3 n rfl, posL_fits h⟩
end Go.Proofs.Ytgggekjhfdkgkaa.Nt
