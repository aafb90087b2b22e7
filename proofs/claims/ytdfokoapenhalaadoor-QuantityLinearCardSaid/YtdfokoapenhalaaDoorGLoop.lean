/- Laws of loops and of wrapped integers, for plain functions. -/
import Derived.Test.YtdfokoapenhalaaDoorAbX
import Derived.Test.YtdfokoapenhalaaDoorAbK
namespace Go.Proofs.YtdfokoapenhalaaDoor.Ab
open Go
/-- A loop whose every round stays within I and comes nearer to its end, or ends as told. -/
theorem loopN_rule {σ ρ : Type} {body : σ → Option (σ ⊕ ρ)} {I : Nat → σ → Prop} {Q : ρ → Prop}
    (h : ∀ k s, I k s → (∃ s' k', body s = some (.inl s') ∧ k' < k ∧ I k' s') ∨ ∃ r, body s = some (.inr r) ∧ Q r) :
    ∀ k s, I k s → ∃ r, loopN body (k + 1) s = some r ∧ Q r := by
  intro k
  induction k using Nat.strongRecOn with
  | ind k ih =>
    intro s hs
    rcases h k s hs with ⟨s', k', hb, hk, hI⟩ | ⟨r, hb, hr⟩
    · obtain ⟨r, hl, hr⟩ := ih k' hk s' hI
      refine ⟨r, ?_, hr⟩
      have := loopN_more hl (k - (k' + 1))
      rw [show k' + 1 + (k - (k' + 1)) = k by omega] at this
      simp only [loopN, hb]
      exact this
    · exact ⟨r, by simp only [loopN, hb], hr⟩
theorem loopO_rule {σ ρ : Type} {body : σ → Option (σ ⊕ ρ)} (I : Nat → σ → Prop) (Q : ρ → Prop)
    (h : ∀ k s, I k s → (∃ s' k', body s = some (.inl s') ∧ k' < k ∧ I k' s') ∨ ∃ r, body s = some (.inr r) ∧ Q r)
    {k : Nat} {s : σ} (hs : I k s) (hk : k < 1000000000000000000) : ∃ r, loopO body s = some r ∧ Q r := by
  obtain ⟨r, hl, hr⟩ := loopN_rule h k s hs
  exact ⟨r, loopO_of hl (by unfold rounds; omega), hr⟩
theorem loopO_eq {σ ρ : Type} {body : σ → Option (σ ⊕ ρ)} (I : Nat → σ → Prop) (r : ρ)
    (h : ∀ k s, I k s → (∃ s' k', body s = some (.inl s') ∧ k' < k ∧ I k' s') ∨ body s = some (.inr r))
    {k : Nat} {s : σ} (hs : I k s) (hk : k < 1000000000000000000) : loopO body s = some r := by
  obtain ⟨r', hl, rfl⟩ := loopO_rule I (· = r) (fun k s hs => (h k s hs).imp id fun h => ⟨r, h, rfl⟩) hs hk
  exact hl
theorem getI_nat {α : Type} (l : List α) (i : Nat) : getI l (i : Int) = l[i]? := by unfold getI; rw [if_pos (Int.natCast_nonneg i), Int.toNat_natCast]
theorem setI_nat {α : Type} (l : List α) (i : Nat) (x : α) : setI l (i : Int) x = l.set i x := by unfold setI; rw [Int.toNat_natCast]
theorem inc (i : Nat) (h : (i : Int) < 9223372036854775807) : IntKind.i64.wrap ((i : Int) + 1) = ((i + 1 : Nat) : Int) := by rw [wrapI _ (by omega) (by omega)]; rfl
@[simp] theorem bindF_l {ρ τ : Type} (e : ρ) (k : ρ → Option τ) : bindF (some (.inl e)) k = k e := rfl
@[simp] theorem bindF_r {ρ τ : Type} (v : τ) (k : ρ → Option τ) : bindF (some (.inr v)) k = some v := rfl
/-- Euclid's loop. -/
theorem euclid {ρ : Type} (f : Int → ρ) : ∀ (k x y : Nat), y < 2 ^ k → loopN (fun s : Int × Int => if (s.2 != 0) = true then (remO s.1 s.2).bind fun r => some (.inl (s.2, r)) else some (.inr (f s.1))) (2 * k + 1) ((x : Int), (y : Int)) = some (f (Nat.gcd x y : Nat)) := by
  intro k
  induction k with
  | zero => intro x y h; obtain rfl : y = 0 := by simpa using h
            simp [loopN]
  | succ k ih =>
    intro x y h
    rw [show 2 * (k + 1) + 1 = (2 * k + 1) + 1 + 1 by omega]
    by_cases hy : y = 0
    · subst hy; simp [loopN]
    · have h1 : ((y : Int) != 0) = true := by simp; omega
      have h2 : remO (x : Int) (y : Int) = some ((x % y : Nat) : Int) := by unfold remO; rw [if_neg (by omega)]; rw [Int.tmod_eq_emod_of_nonneg (by omega)]; rfl
      unfold loopN
      simp only [h1, if_true, h2, Option.bind_some]
      by_cases hr : x % y = 0
      · unfold loopN
        simp only [hr, bne_self_eq_false, Int.natCast_zero]
        rw [Nat.gcd_comm, Nat.gcd_rec, hr, Nat.gcd_zero_left]
        simp
      · have h3 : (((x % y : Nat) : Int) != 0) = true := by simp only [bne_iff_ne, ne_eq]; omega
        have h4 : remO (y : Int) ((x % y : Nat) : Int) = some ((y % (x % y) : Nat) : Int) := by unfold remO; rw [if_neg (by omega)]; rw [Int.tmod_eq_emod_of_nonneg (by omega)]; rfl
        unfold loopN
        simp only [h3, if_true, h4, Option.bind_some]
        have hlt : x % y < y := Nat.mod_lt _ (by omega)
        have hd : y % (x % y) < 2 ^ k := by
          have := Nat.mod_lt y (show x % y > 0 by omega)
          have h5 : y % (x % y) ≤ y - x % y := by
            rw [Nat.mod_eq_sub_mod (by omega)]; exact Nat.mod_le _ _
          rw [Nat.pow_succ] at h; omega
        rw [ih _ _ hd]
        congr 2
        rw [Nat.gcd_comm (x % y), ← Nat.gcd_rec, ← Nat.gcd_rec, Nat.gcd_comm]
theorem euclidO {ρ : Type} (f : Int → ρ) (x y : Nat) (h : (y : Int) ≤ 18446744073709551615) : loopO (fun s : Int × Int => if (s.2 != 0) = true then (remO s.1 s.2).bind fun r => some (.inl (s.2, r)) else some (.inr (f s.1))) ((x : Int), (y : Int)) = some (f (Nat.gcd x y : Nat)) :=
  loopO_of (euclid f 64 x y (by rw [show (2:Nat)^64 = 18446744073709551616 by decide]; omega)) (by unfold rounds; omega)
end Go.Proofs.YtdfokoapenhalaaDoor.Ab
