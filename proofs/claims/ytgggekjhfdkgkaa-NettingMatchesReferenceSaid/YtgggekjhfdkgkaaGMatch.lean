/- NettingMatchesReference answers true, in plain Lean. -/
import Derived.Test.YtgggekjhfdkgkaaGRef
import Derived.Test.YtgggekjhfdkgkaaGOrder
import Derived.Test.YtgggekjhfdkgkaaDx16
namespace Go.Proofs.Ytgggekjhfdkgkaa.Ab
open Go
theorem netR_len (m : Int) (l : List Nt.Debt) : (netR m l).1.length ≤ 1000 := by
  obtain ⟨out, h1, _, h2, _⟩ := netR_out m l
  rw [h1, List.length_map]; omega
theorem pairsR_len (m : Int) (l : List Nt.Debt) : (pairsR m l).1.length ≤ 1000 := by
  unfold pairsR
  cases hv : Nt.valid m l
  · simp
  simp only [if_true]
  cases hp : Nt.pairsO l m.toNat with
  | none => simp
  | some ps => have := Nt.pairs_len hp; simp only [List.length_map]; omega
theorem match_true (m : Int) (l : List D.Debt) (h : ∀ x ∈ l, i64D x) : g_estoppellaw42_NettingMatchesReference m l = some true := by
  unfold g_estoppellaw42_NettingMatchesReference
  rw [head_true, Option.bind_some]
  by_cases h4 : (l.length : Int) > 410
  · rw [if_pos (decide_eq_true h4)]
  rw [if_neg (by simpa using h4)]
  rw [g_nPositions m l h, Option.bind_some, r_Positions m l h, Option.bind_some, g_nPairs m l h, Option.bind_some, r_Pairs m l h, Option.bind_some, g_nNet m l h, Option.bind_some, r_Net m l h, Option.bind_some, g_nValid m l h, Option.bind_some, r_nValid m l h, Option.bind_some]
  rw [g_Ratios _ _ (posR_len m _), g_Same _ _ (pairsR_len m _), g_Same _ _ (netR_len m _)]
  simp only [beq_self_eq_true, if_true, Option.bind_some, decide_true]
end Go.Proofs.Ytgggekjhfdkgkaa.Ab
