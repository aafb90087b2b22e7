/- Loops over indices. -/
import Derived.Test.YtdfokoapenhalaaDoorGLoop
namespace Go.Proofs.YtdfokoapenhalaaDoor.Ab
open Go
/-- A loop over the indices below n. -/
theorem range_rule {σ ρ : Type} {body : σ → Option (σ ⊕ ρ)} (ix : σ → Int) (n : Nat) (J : Nat → σ → Prop) (Q : ρ → Prop)
    (h : ∀ i s, i < n → ix s = i → J i s → (∃ s', body s = some (.inl s') ∧ ix s' = ((i + 1 : Nat) : Int) ∧ J (i + 1) s') ∨ ∃ r, body s = some (.inr r) ∧ Q r)
    (he : ∀ s, ix s = n → J n s → ∃ r, body s = some (.inr r) ∧ Q r)
    {s : σ} {i : Nat} (h0 : ix s = i) (hJ : J i s) (hle : i ≤ n) (hn : n < 1000000000000000000) : ∃ r, loopO body s = some r ∧ Q r := by
  refine loopO_rule (fun k s => ∃ i : Nat, ix s = i ∧ i + k = n ∧ J i s) Q (fun k s ⟨i, hi, hk, hJ⟩ => ?_) (k := n - i) ⟨i, h0, by omega, hJ⟩ (by omega)
  by_cases hin : i < n
  · rcases h i s hin hi hJ with ⟨s', hb, hi', hJ'⟩ | hr
    · exact .inl ⟨s', k - 1, hb, by omega, i + 1, hi', by omega, hJ'⟩
    · exact .inr hr
  · obtain rfl : i = n := by omega
    exact .inr (he s hi hJ)
theorem range_eq {σ ρ : Type} {body : σ → Option (σ ⊕ ρ)} (ix : σ → Int) (n : Nat) (J : Nat → σ → Prop) (r : ρ)
    (h : ∀ i s, i < n → ix s = i → J i s → (∃ s', body s = some (.inl s') ∧ ix s' = ((i + 1 : Nat) : Int) ∧ J (i + 1) s') ∨ body s = some (.inr r))
    (he : ∀ s, ix s = n → J n s → body s = some (.inr r))
    {s : σ} {i : Nat} (h0 : ix s = i) (hJ : J i s) (hle : i ≤ n) (hn : n < 1000000000000000000) : loopO body s = some r := by
  obtain ⟨r', hl, rfl⟩ := range_rule ix n J (· = r) (fun i s a b c => (h i s a b c).imp id fun h => ⟨r, h, rfl⟩) (fun s a b => ⟨r, he s a b, rfl⟩) h0 hJ hle hn
  exact hl
end Go.Proofs.YtdfokoapenhalaaDoor.Ab
