/-
  No cell of these rows narrows 'for every input' (looked for: loops, veiled, ifaces, maps, wideKeys, modest, calm, conditions, laid).
  DERIVED. THE GIVEN ROWS OF THIS SEAT. 6 by the template 'for every input the law returns true; each argument reads behind the call as it read before'; 0 by the template 'total and deterministic' (their statements: YtgggekjhfdkgkaaTotals.lean).
  GIVEN WITH THE SEED: the statements are not yours to turn. If you find one false, say at which input.
  Laid BY PROGRAM, IN A SANDBOX (cutbox-rows.mjs): the forced cells as the released guide's own fill.sh prints them over the translation 7036083663530767… (all of the seat's roots in one cut). By AI agents, Wed Nov 11 2026. No macro, syntax, notation, axiom, sorry.
-/
import Derived.Test.YtgggekjhfdkgkaaChecked
import GoSem.Claim
import GoSem.ClaimJoined
import GoSem.ClaimMapViews
import Derived.JoinedTies
import Derived.KernelRfl
namespace Go.Proofs.Ytgggekjhfdkgkaa
/- THE CELL 'sum', in the pinned program and in every row, IS THE sha256 OF THE DUMP (.gsa) THAT YtgggekjhfdkgkaaProg.lean LOADS. Nothing in Lean hashes anything: it is a label: what it is worth is what the hold of that sum in a sandbox is worth. -/
noncomputable def Try.pinned : Pinned := { name := "ytgggekjhfdkgkaa", sum := "70360836635307670921bd5cc8a17cc011d0d6d6ec740daae81c986176a05027", checked := Try.checked }
namespace Rows
def none {H : Type} : Left H := { results := [], args := [] }

/-- 'estoppellaw42.NettingMatchesReference': WHATEVER THE INPUT: true; the input reads as it did. -/
def nettingMatchesReferenceSpec : ChangeSpec := { name := "nettingMatchesReference", fn := fun _ => fun
  | [d1, d2] => { results := [.lit (.bool true)], args := [d1, d2] }
  | _ => none }
def nettingMatchesReferenceRow : OpenClaim := { program := "ytgggekjhfdkgkaa", sum := "70360836635307670921bd5cc8a17cc011d0d6d6ec740daae81c986176a05027", func := "estoppel/estoppellaw42.NettingMatchesReference", spec := "nettingMatchesReference", unfollowed := true, recurses := true, apart := false }
def NettingMatchesReferenceSaid : Prop := nettingMatchesReferenceRow.holds Try.pinned (OpenSpec.ofChange nettingMatchesReferenceSpec)

/-- ITS FALSE NEIGHBOUR: 'it returns false'. Refute it at one input. -/
def nettingMatchesReferenceWrong : ChangeSpec := { name := "nettingMatchesReference", fn := fun _ => fun
  | [d1, d2] => { results := [.lit (.bool false)], args := [d1, d2] }
  | _ => none }
def NettingMatchesReferenceWrongFalsely : Prop := nettingMatchesReferenceRow.holds Try.pinned (OpenSpec.ofChange nettingMatchesReferenceWrong)

/-- 'estoppellaw42.NettingConserves': WHATEVER THE INPUT: true; the input reads as it did. -/
def nettingConservesSpec : ChangeSpec := { name := "nettingConserves", fn := fun _ => fun
  | [d1, d2] => { results := [.lit (.bool true)], args := [d1, d2] }
  | _ => none }
def nettingConservesRow : OpenClaim := { program := "ytgggekjhfdkgkaa", sum := "70360836635307670921bd5cc8a17cc011d0d6d6ec740daae81c986176a05027", func := "estoppel/estoppellaw42.NettingConserves", spec := "nettingConserves", unfollowed := true, recurses := true, apart := false }
def NettingConservesSaid : Prop := nettingConservesRow.holds Try.pinned (OpenSpec.ofChange nettingConservesSpec)

/-- ITS FALSE NEIGHBOUR: 'it returns false'. Refute it at one input. -/
def nettingConservesWrong : ChangeSpec := { name := "nettingConserves", fn := fun _ => fun
  | [d1, d2] => { results := [.lit (.bool false)], args := [d1, d2] }
  | _ => none }
def NettingConservesWrongFalsely : Prop := nettingConservesRow.holds Try.pinned (OpenSpec.ofChange nettingConservesWrong)

/-- 'estoppellaw42.NettingFew': WHATEVER THE INPUT: true; the input reads as it did. -/
def nettingFewSpec : ChangeSpec := { name := "nettingFew", fn := fun _ => fun
  | [d1, d2] => { results := [.lit (.bool true)], args := [d1, d2] }
  | _ => none }
def nettingFewRow : OpenClaim := { program := "ytgggekjhfdkgkaa", sum := "70360836635307670921bd5cc8a17cc011d0d6d6ec740daae81c986176a05027", func := "estoppel/estoppellaw42.NettingFew", spec := "nettingFew", unfollowed := true, recurses := true, apart := false }
def NettingFewSaid : Prop := nettingFewRow.holds Try.pinned (OpenSpec.ofChange nettingFewSpec)

/-- ITS FALSE NEIGHBOUR: 'it returns false'. Refute it at one input. -/
def nettingFewWrong : ChangeSpec := { name := "nettingFew", fn := fun _ => fun
  | [d1, d2] => { results := [.lit (.bool false)], args := [d1, d2] }
  | _ => none }
def NettingFewWrongFalsely : Prop := nettingFewRow.holds Try.pinned (OpenSpec.ofChange nettingFewWrong)

/-- 'estoppellaw42.NettingAgain': WHATEVER THE INPUT: true; the input reads as it did. -/
def nettingAgainSpec : ChangeSpec := { name := "nettingAgain", fn := fun _ => fun
  | [d1, d2] => { results := [.lit (.bool true)], args := [d1, d2] }
  | _ => none }
def nettingAgainRow : OpenClaim := { program := "ytgggekjhfdkgkaa", sum := "70360836635307670921bd5cc8a17cc011d0d6d6ec740daae81c986176a05027", func := "estoppel/estoppellaw42.NettingAgain", spec := "nettingAgain", unfollowed := true, recurses := true, apart := false }
def NettingAgainSaid : Prop := nettingAgainRow.holds Try.pinned (OpenSpec.ofChange nettingAgainSpec)

/-- ITS FALSE NEIGHBOUR: 'it returns false'. Refute it at one input. -/
def nettingAgainWrong : ChangeSpec := { name := "nettingAgain", fn := fun _ => fun
  | [d1, d2] => { results := [.lit (.bool false)], args := [d1, d2] }
  | _ => none }
def NettingAgainWrongFalsely : Prop := nettingAgainRow.holds Try.pinned (OpenSpec.ofChange nettingAgainWrong)

/-- 'estoppellaw42.NettingOrder': WHATEVER THE INPUT: true; the input reads as it did. -/
def nettingOrderSpec : ChangeSpec := { name := "nettingOrder", fn := fun _ => fun
  | [d1, d2] => { results := [.lit (.bool true)], args := [d1, d2] }
  | _ => none }
def nettingOrderRow : OpenClaim := { program := "ytgggekjhfdkgkaa", sum := "70360836635307670921bd5cc8a17cc011d0d6d6ec740daae81c986176a05027", func := "estoppel/estoppellaw42.NettingOrder", spec := "nettingOrder", unfollowed := true, recurses := true, apart := false }
def NettingOrderSaid : Prop := nettingOrderRow.holds Try.pinned (OpenSpec.ofChange nettingOrderSpec)

/-- ITS FALSE NEIGHBOUR: 'it returns false'. Refute it at one input. -/
def nettingOrderWrong : ChangeSpec := { name := "nettingOrder", fn := fun _ => fun
  | [d1, d2] => { results := [.lit (.bool false)], args := [d1, d2] }
  | _ => none }
def NettingOrderWrongFalsely : Prop := nettingOrderRow.holds Try.pinned (OpenSpec.ofChange nettingOrderWrong)

/-- 'estoppellaw42.NettingLess': WHATEVER THE INPUT: true; the input reads as it did. -/
def nettingLessSpec : ChangeSpec := { name := "nettingLess", fn := fun _ => fun
  | [d1, d2] => { results := [.lit (.bool true)], args := [d1, d2] }
  | _ => none }
def nettingLessRow : OpenClaim := { program := "ytgggekjhfdkgkaa", sum := "70360836635307670921bd5cc8a17cc011d0d6d6ec740daae81c986176a05027", func := "estoppel/estoppellaw42.NettingLess", spec := "nettingLess", unfollowed := true, recurses := true, apart := false }
def NettingLessSaid : Prop := nettingLessRow.holds Try.pinned (OpenSpec.ofChange nettingLessSpec)

/-- ITS FALSE NEIGHBOUR: 'it returns false'. Refute it at one input. -/
def nettingLessWrong : ChangeSpec := { name := "nettingLess", fn := fun _ => fun
  | [d1, d2] => { results := [.lit (.bool false)], args := [d1, d2] }
  | _ => none }
def NettingLessWrongFalsely : Prop := nettingLessRow.holds Try.pinned (OpenSpec.ofChange nettingLessWrong)

/- THE SECOND FORM. 'bulk': how many values and letters a reading holds, each counted each time it is reached (what is shared counts as often as it is met; a slice's spare places count too). A statement '..UptoSaid' is the law's where the arguments, and the package variables that the reading takes, are together of bulk at most 1048576: NARROWER than '..Said'. Prove '..Said' where nothing that the law and all that it calls make is longer than what came in: it says more and counts as full. Else prove '..UptoSaid'. A law counts once. -/
mutual
def uptoBulk {H : Type} : DataW H → Nat
  | .lit (.string bytes) => bytes.length + 1
  | .lit _ => 1
  | .nil => 1
  | .ptr d => uptoBulk d + 1
  | .slice elems spare => uptoBulkAll elems + uptoBulkAll spare + 1
  | .agg parts => uptoBulkAll parts + 1
  | .iface _ d => uptoBulk d + 1
  | .map entries => uptoBulkEntries entries + 1
  | .held _ => 1
def uptoBulkAll {H : Type} : List (DataW H) → Nat
  | [] => 0
  | d :: r => uptoBulk d + uptoBulkAll r
def uptoBulkEntries {H : Type} : List (Lit × DataW H) → Nat
  | [] => 0
  | x :: r => uptoBulkEntry x + uptoBulkEntries r
def uptoBulkEntry {H : Type} : Lit × DataW H → Nat
  | (.string bytes, d) => bytes.length + uptoBulk d + 1
  | (_, d) => uptoBulk d + 1
 end
def uptoSmall : (H : Type) → List (DataW H) → Bool := fun _ ds => decide (uptoBulkAll ds ≤ 1048576)
def OpenSpec.upto (s : _root_.Go.ChangeSpec) : _root_.Go.OpenSpec := { _root_.Go.OpenSpec.ofChange s with cond := some uptoSmall }

/-- 'estoppellaw42.NettingMatchesReference', WHERE WHAT IT READS IS OF BULK AT MOST 1048576: true; the input reads as it did. -/
def nettingMatchesReferenceUptoRow : OpenClaim := { program := "ytgggekjhfdkgkaa", sum := "70360836635307670921bd5cc8a17cc011d0d6d6ec740daae81c986176a05027", func := "estoppel/estoppellaw42.NettingMatchesReference", spec := "nettingMatchesReference", unfollowed := true, recurses := true, apart := false, narrowed := true }
def NettingMatchesReferenceUptoSaid : Prop := nettingMatchesReferenceUptoRow.holds Try.pinned (OpenSpec.upto nettingMatchesReferenceSpec)

/-- 'estoppellaw42.NettingConserves', WHERE WHAT IT READS IS OF BULK AT MOST 1048576: true; the input reads as it did. -/
def nettingConservesUptoRow : OpenClaim := { program := "ytgggekjhfdkgkaa", sum := "70360836635307670921bd5cc8a17cc011d0d6d6ec740daae81c986176a05027", func := "estoppel/estoppellaw42.NettingConserves", spec := "nettingConserves", unfollowed := true, recurses := true, apart := false, narrowed := true }
def NettingConservesUptoSaid : Prop := nettingConservesUptoRow.holds Try.pinned (OpenSpec.upto nettingConservesSpec)

/-- 'estoppellaw42.NettingFew', WHERE WHAT IT READS IS OF BULK AT MOST 1048576: true; the input reads as it did. -/
def nettingFewUptoRow : OpenClaim := { program := "ytgggekjhfdkgkaa", sum := "70360836635307670921bd5cc8a17cc011d0d6d6ec740daae81c986176a05027", func := "estoppel/estoppellaw42.NettingFew", spec := "nettingFew", unfollowed := true, recurses := true, apart := false, narrowed := true }
def NettingFewUptoSaid : Prop := nettingFewUptoRow.holds Try.pinned (OpenSpec.upto nettingFewSpec)

/-- 'estoppellaw42.NettingAgain', WHERE WHAT IT READS IS OF BULK AT MOST 1048576: true; the input reads as it did. -/
def nettingAgainUptoRow : OpenClaim := { program := "ytgggekjhfdkgkaa", sum := "70360836635307670921bd5cc8a17cc011d0d6d6ec740daae81c986176a05027", func := "estoppel/estoppellaw42.NettingAgain", spec := "nettingAgain", unfollowed := true, recurses := true, apart := false, narrowed := true }
def NettingAgainUptoSaid : Prop := nettingAgainUptoRow.holds Try.pinned (OpenSpec.upto nettingAgainSpec)

/-- 'estoppellaw42.NettingOrder', WHERE WHAT IT READS IS OF BULK AT MOST 1048576: true; the input reads as it did. -/
def nettingOrderUptoRow : OpenClaim := { program := "ytgggekjhfdkgkaa", sum := "70360836635307670921bd5cc8a17cc011d0d6d6ec740daae81c986176a05027", func := "estoppel/estoppellaw42.NettingOrder", spec := "nettingOrder", unfollowed := true, recurses := true, apart := false, narrowed := true }
def NettingOrderUptoSaid : Prop := nettingOrderUptoRow.holds Try.pinned (OpenSpec.upto nettingOrderSpec)

/-- 'estoppellaw42.NettingLess', WHERE WHAT IT READS IS OF BULK AT MOST 1048576: true; the input reads as it did. -/
def nettingLessUptoRow : OpenClaim := { program := "ytgggekjhfdkgkaa", sum := "70360836635307670921bd5cc8a17cc011d0d6d6ec740daae81c986176a05027", func := "estoppel/estoppellaw42.NettingLess", spec := "nettingLess", unfollowed := true, recurses := true, apart := false, narrowed := true }
def NettingLessUptoSaid : Prop := nettingLessUptoRow.holds Try.pinned (OpenSpec.upto nettingLessSpec)

end Rows
end Go.Proofs.Ytgggekjhfdkgkaa
