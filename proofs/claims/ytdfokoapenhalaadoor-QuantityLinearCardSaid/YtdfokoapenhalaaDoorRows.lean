/-
  NARROWER THAN 'FOR EVERY INPUT', by the rows' own cells (each row's printed sentence says how): QuantityMatchesReference: laid · QuantityTables: laid · QuantityBack: laid · QuantityWay: laid · QuantityLinear: laid · QuantitySums: laid · QuantityBaskets: laid · QuantityCovers: laid.
  DERIVED. THE GIVEN ROWS OF THIS SEAT. 8 by the template 'for every input the law returns true; each argument reads behind the call as it read before'; 0 by the template 'total and deterministic' (their statements: YtdfokoapenhalaaDoorTotals.lean).
  GIVEN WITH THE SEED: the statements are not yours to turn. If you find one false, say at which input.
  Laid BY PROGRAM, IN A SANDBOX (cutbox-rows.mjs): the forced cells as the released guide's own fill.sh prints them over the translation af7cfb4507f30530… (all of the seat's roots in one cut). By AI agents, Wed Nov 11 2026. No macro, syntax, notation, axiom, sorry.
-/
import Derived.Test.YtdfokoapenhalaaDoorChecked
import GoSem.Claim
import GoSem.ClaimJoined
import GoSem.ClaimMapViews
import Derived.JoinedTies
import Derived.KernelRfl
namespace Go.Proofs.YtdfokoapenhalaaDoor
/- THE CELL 'sum', in the pinned program and in every row, IS THE sha256 OF THE DUMP (.gsa) THAT YtdfokoapenhalaaDoorProg.lean LOADS. Nothing in Lean hashes anything: it is a label: what it is worth is what the hold of that sum in a sandbox is worth. -/
noncomputable def Tryd.pinned : Pinned := { name := "ytdfokoapenhalaadoor", sum := "af7cfb4507f30530d482cce215e88157c8fc46e0cac95e4fc066a71bf79674c8", checked := Tryd.checked }
namespace Rows
def none {H : Type} : Left H := { results := [], args := [] }

/- WHAT THE LISTED PACKAGE-LEVEL VARIABLES READ AS WHEN THE CALL BEGINS. Each datum BY PROGRAM (the guide's laid-datum.mjs) off the statement by which the dump's own 'gosem.cut.vars' lays the variable. In a bare row this is a premise. The card (YtdfokoapenhalaaDoorCards.lean) ties it to the program's text. -/
def laid_estoppel_quantity_whole {H : Type} : DataW H := .agg [.lit (.int .i64 1), .lit (.int .i64 1)]

/-- 'estoppellaw04.QuantityMatchesReference': WHATEVER THE INPUT: true; the input reads as it did. -/
def quantityMatchesReferenceSpec : ChangeSpec := { name := "quantityMatchesReference", fn := fun _ => fun
  | [d1, d2, d3, d4, d5] => { results := [.lit (.bool true)], args := [d1, d2, d3, d4, d5] }
  | _ => none }
def quantityMatchesReferenceRow : OpenClaim := { program := "ytdfokoapenhalaadoor", sum := "af7cfb4507f30530d482cce215e88157c8fc46e0cac95e4fc066a71bf79674c8", func := "estoppel/estoppellaw04.QuantityMatchesReference", spec := "quantityMatchesReference", unfollowed := true, recurses := true, named := ["estoppel/quantity.whole"], apart := false, laid := [("estoppel/quantity.whole", laid_estoppel_quantity_whole)] }
def QuantityMatchesReferenceSaid : Prop := quantityMatchesReferenceRow.holds Tryd.pinned (OpenSpec.ofChange quantityMatchesReferenceSpec)

/-- ITS FALSE NEIGHBOUR: 'it returns false'. Refute it at one input. -/
def quantityMatchesReferenceWrong : ChangeSpec := { name := "quantityMatchesReference", fn := fun _ => fun
  | [d1, d2, d3, d4, d5] => { results := [.lit (.bool false)], args := [d1, d2, d3, d4, d5] }
  | _ => none }
def QuantityMatchesReferenceWrongFalsely : Prop := quantityMatchesReferenceRow.holds Tryd.pinned (OpenSpec.ofChange quantityMatchesReferenceWrong)

/-- 'estoppellaw04.QuantityTables': WHATEVER THE INPUT: true; the input reads as it did. -/
def quantityTablesSpec : ChangeSpec := { name := "quantityTables", fn := fun _ => fun
  | [d1, d2, d3] => { results := [.lit (.bool true)], args := [d1, d2, d3] }
  | _ => none }
def quantityTablesRow : OpenClaim := { program := "ytdfokoapenhalaadoor", sum := "af7cfb4507f30530d482cce215e88157c8fc46e0cac95e4fc066a71bf79674c8", func := "estoppel/estoppellaw04.QuantityTables", spec := "quantityTables", unfollowed := true, recurses := true, named := ["estoppel/quantity.whole"], apart := false, laid := [("estoppel/quantity.whole", laid_estoppel_quantity_whole)] }
def QuantityTablesSaid : Prop := quantityTablesRow.holds Tryd.pinned (OpenSpec.ofChange quantityTablesSpec)

/-- ITS FALSE NEIGHBOUR: 'it returns false'. Refute it at one input. -/
def quantityTablesWrong : ChangeSpec := { name := "quantityTables", fn := fun _ => fun
  | [d1, d2, d3] => { results := [.lit (.bool false)], args := [d1, d2, d3] }
  | _ => none }
def QuantityTablesWrongFalsely : Prop := quantityTablesRow.holds Tryd.pinned (OpenSpec.ofChange quantityTablesWrong)

/-- 'estoppellaw04.QuantityBack': WHATEVER THE INPUT: true; the input reads as it did. -/
def quantityBackSpec : ChangeSpec := { name := "quantityBack", fn := fun _ => fun
  | [d1, d2, d3] => { results := [.lit (.bool true)], args := [d1, d2, d3] }
  | _ => none }
def quantityBackRow : OpenClaim := { program := "ytdfokoapenhalaadoor", sum := "af7cfb4507f30530d482cce215e88157c8fc46e0cac95e4fc066a71bf79674c8", func := "estoppel/estoppellaw04.QuantityBack", spec := "quantityBack", unfollowed := true, recurses := true, named := ["estoppel/quantity.whole"], apart := false, laid := [("estoppel/quantity.whole", laid_estoppel_quantity_whole)] }
def QuantityBackSaid : Prop := quantityBackRow.holds Tryd.pinned (OpenSpec.ofChange quantityBackSpec)

/-- ITS FALSE NEIGHBOUR: 'it returns false'. Refute it at one input. -/
def quantityBackWrong : ChangeSpec := { name := "quantityBack", fn := fun _ => fun
  | [d1, d2, d3] => { results := [.lit (.bool false)], args := [d1, d2, d3] }
  | _ => none }
def QuantityBackWrongFalsely : Prop := quantityBackRow.holds Tryd.pinned (OpenSpec.ofChange quantityBackWrong)

/-- 'estoppellaw04.QuantityWay': WHATEVER THE INPUT: true; the input reads as it did. -/
def quantityWaySpec : ChangeSpec := { name := "quantityWay", fn := fun _ => fun
  | [d1, d2, d3, d4] => { results := [.lit (.bool true)], args := [d1, d2, d3, d4] }
  | _ => none }
def quantityWayRow : OpenClaim := { program := "ytdfokoapenhalaadoor", sum := "af7cfb4507f30530d482cce215e88157c8fc46e0cac95e4fc066a71bf79674c8", func := "estoppel/estoppellaw04.QuantityWay", spec := "quantityWay", unfollowed := true, recurses := true, named := ["estoppel/quantity.whole"], apart := false, laid := [("estoppel/quantity.whole", laid_estoppel_quantity_whole)] }
def QuantityWaySaid : Prop := quantityWayRow.holds Tryd.pinned (OpenSpec.ofChange quantityWaySpec)

/-- ITS FALSE NEIGHBOUR: 'it returns false'. Refute it at one input. -/
def quantityWayWrong : ChangeSpec := { name := "quantityWay", fn := fun _ => fun
  | [d1, d2, d3, d4] => { results := [.lit (.bool false)], args := [d1, d2, d3, d4] }
  | _ => none }
def QuantityWayWrongFalsely : Prop := quantityWayRow.holds Tryd.pinned (OpenSpec.ofChange quantityWayWrong)

/-- 'estoppellaw04.QuantityLinear': WHATEVER THE INPUT: true; the input reads as it did. -/
def quantityLinearSpec : ChangeSpec := { name := "quantityLinear", fn := fun _ => fun
  | [d1, d2, d3, d4, d5] => { results := [.lit (.bool true)], args := [d1, d2, d3, d4, d5] }
  | _ => none }
def quantityLinearRow : OpenClaim := { program := "ytdfokoapenhalaadoor", sum := "af7cfb4507f30530d482cce215e88157c8fc46e0cac95e4fc066a71bf79674c8", func := "estoppel/estoppellaw04.QuantityLinear", spec := "quantityLinear", unfollowed := true, recurses := true, named := ["estoppel/quantity.whole"], apart := false, laid := [("estoppel/quantity.whole", laid_estoppel_quantity_whole)] }
def QuantityLinearSaid : Prop := quantityLinearRow.holds Tryd.pinned (OpenSpec.ofChange quantityLinearSpec)

/-- ITS FALSE NEIGHBOUR: 'it returns false'. Refute it at one input. -/
def quantityLinearWrong : ChangeSpec := { name := "quantityLinear", fn := fun _ => fun
  | [d1, d2, d3, d4, d5] => { results := [.lit (.bool false)], args := [d1, d2, d3, d4, d5] }
  | _ => none }
def QuantityLinearWrongFalsely : Prop := quantityLinearRow.holds Tryd.pinned (OpenSpec.ofChange quantityLinearWrong)

/-- 'estoppellaw04.QuantitySums': WHATEVER THE INPUT: true; the input reads as it did. -/
def quantitySumsSpec : ChangeSpec := { name := "quantitySums", fn := fun _ => fun
  | [d1, d2, d3, d4] => { results := [.lit (.bool true)], args := [d1, d2, d3, d4] }
  | _ => none }
def quantitySumsRow : OpenClaim := { program := "ytdfokoapenhalaadoor", sum := "af7cfb4507f30530d482cce215e88157c8fc46e0cac95e4fc066a71bf79674c8", func := "estoppel/estoppellaw04.QuantitySums", spec := "quantitySums", unfollowed := true, recurses := true, named := ["estoppel/quantity.whole"], apart := false, laid := [("estoppel/quantity.whole", laid_estoppel_quantity_whole)] }
def QuantitySumsSaid : Prop := quantitySumsRow.holds Tryd.pinned (OpenSpec.ofChange quantitySumsSpec)

/-- ITS FALSE NEIGHBOUR: 'it returns false'. Refute it at one input. -/
def quantitySumsWrong : ChangeSpec := { name := "quantitySums", fn := fun _ => fun
  | [d1, d2, d3, d4] => { results := [.lit (.bool false)], args := [d1, d2, d3, d4] }
  | _ => none }
def QuantitySumsWrongFalsely : Prop := quantitySumsRow.holds Tryd.pinned (OpenSpec.ofChange quantitySumsWrong)

/-- 'estoppellaw04.QuantityBaskets': WHATEVER THE INPUT: true; the input reads as it did. -/
def quantityBasketsSpec : ChangeSpec := { name := "quantityBaskets", fn := fun _ => fun
  | [d1, d2, d3, d4] => { results := [.lit (.bool true)], args := [d1, d2, d3, d4] }
  | _ => none }
def quantityBasketsRow : OpenClaim := { program := "ytdfokoapenhalaadoor", sum := "af7cfb4507f30530d482cce215e88157c8fc46e0cac95e4fc066a71bf79674c8", func := "estoppel/estoppellaw04.QuantityBaskets", spec := "quantityBaskets", unfollowed := true, recurses := true, named := ["estoppel/quantity.whole"], apart := false, laid := [("estoppel/quantity.whole", laid_estoppel_quantity_whole)] }
def QuantityBasketsSaid : Prop := quantityBasketsRow.holds Tryd.pinned (OpenSpec.ofChange quantityBasketsSpec)

/-- ITS FALSE NEIGHBOUR: 'it returns false'. Refute it at one input. -/
def quantityBasketsWrong : ChangeSpec := { name := "quantityBaskets", fn := fun _ => fun
  | [d1, d2, d3, d4] => { results := [.lit (.bool false)], args := [d1, d2, d3, d4] }
  | _ => none }
def QuantityBasketsWrongFalsely : Prop := quantityBasketsRow.holds Tryd.pinned (OpenSpec.ofChange quantityBasketsWrong)

/-- 'estoppellaw04.QuantityCovers': WHATEVER THE INPUT: true; the input reads as it did. -/
def quantityCoversSpec : ChangeSpec := { name := "quantityCovers", fn := fun _ => fun
  | [d1, d2, d3, d4] => { results := [.lit (.bool true)], args := [d1, d2, d3, d4] }
  | _ => none }
def quantityCoversRow : OpenClaim := { program := "ytdfokoapenhalaadoor", sum := "af7cfb4507f30530d482cce215e88157c8fc46e0cac95e4fc066a71bf79674c8", func := "estoppel/estoppellaw04.QuantityCovers", spec := "quantityCovers", unfollowed := true, recurses := true, named := ["estoppel/quantity.whole"], apart := false, laid := [("estoppel/quantity.whole", laid_estoppel_quantity_whole)] }
def QuantityCoversSaid : Prop := quantityCoversRow.holds Tryd.pinned (OpenSpec.ofChange quantityCoversSpec)

/-- ITS FALSE NEIGHBOUR: 'it returns false'. Refute it at one input. -/
def quantityCoversWrong : ChangeSpec := { name := "quantityCovers", fn := fun _ => fun
  | [d1, d2, d3, d4] => { results := [.lit (.bool false)], args := [d1, d2, d3, d4] }
  | _ => none }
def QuantityCoversWrongFalsely : Prop := quantityCoversRow.holds Tryd.pinned (OpenSpec.ofChange quantityCoversWrong)

/- THE SECOND FORM. 'bulk': how many values and letters a reading holds, each counted each time it is reached (what is shared counts as often as it is met; a slice's spare places count too). A statement '..UptoSaid' is the law's where the arguments, and the package variables that the reading takes, are together of bulk at most 1048576: NARROWER than '..Said'. Prove '..Said' where nothing that the law and all that it calls make is longer than what came in: it says more and counts as full. Else prove '..UptoSaid'. A law counts once. -/
mutual
def uptoBulk {H : Type} : DataW H → Nat
  | .lit (.string bytes) => bytes.length + 1
  | .lit _ => 1
  | .nil => 1
  | .ptr d => uptoBulk d + 1
  | .slice elems spare => uptoBulkAll elems + uptoBulkAll spare + 1
  | .agg parts => uptoBulkAll parts + 1
  | .iface _ d => uptoBulk d + 1
  | .map entries => uptoBulkEntries entries + 1
  | .held _ => 1
def uptoBulkAll {H : Type} : List (DataW H) → Nat
  | [] => 0
  | d :: r => uptoBulk d + uptoBulkAll r
def uptoBulkEntries {H : Type} : List (Lit × DataW H) → Nat
  | [] => 0
  | x :: r => uptoBulkEntry x + uptoBulkEntries r
def uptoBulkEntry {H : Type} : Lit × DataW H → Nat
  | (.string bytes, d) => bytes.length + uptoBulk d + 1
  | (_, d) => uptoBulk d + 1
 end
def uptoSmall : (H : Type) → List (DataW H) → Bool := fun _ ds => decide (uptoBulkAll ds ≤ 1048576)
def OpenSpec.upto (s : _root_.Go.ChangeSpec) : _root_.Go.OpenSpec := { _root_.Go.OpenSpec.ofChange s with cond := some uptoSmall }

/-- 'estoppellaw04.QuantityMatchesReference', WHERE WHAT IT READS IS OF BULK AT MOST 1048576: true; the input reads as it did. -/
def quantityMatchesReferenceUptoRow : OpenClaim := { program := "ytdfokoapenhalaadoor", sum := "af7cfb4507f30530d482cce215e88157c8fc46e0cac95e4fc066a71bf79674c8", func := "estoppel/estoppellaw04.QuantityMatchesReference", spec := "quantityMatchesReference", unfollowed := true, recurses := true, named := ["estoppel/quantity.whole"], apart := false, laid := [("estoppel/quantity.whole", laid_estoppel_quantity_whole)], narrowed := true }
def QuantityMatchesReferenceUptoSaid : Prop := quantityMatchesReferenceUptoRow.holds Tryd.pinned (OpenSpec.upto quantityMatchesReferenceSpec)

/-- 'estoppellaw04.QuantityTables', WHERE WHAT IT READS IS OF BULK AT MOST 1048576: true; the input reads as it did. -/
def quantityTablesUptoRow : OpenClaim := { program := "ytdfokoapenhalaadoor", sum := "af7cfb4507f30530d482cce215e88157c8fc46e0cac95e4fc066a71bf79674c8", func := "estoppel/estoppellaw04.QuantityTables", spec := "quantityTables", unfollowed := true, recurses := true, named := ["estoppel/quantity.whole"], apart := false, laid := [("estoppel/quantity.whole", laid_estoppel_quantity_whole)], narrowed := true }
def QuantityTablesUptoSaid : Prop := quantityTablesUptoRow.holds Tryd.pinned (OpenSpec.upto quantityTablesSpec)

/-- 'estoppellaw04.QuantityBack', WHERE WHAT IT READS IS OF BULK AT MOST 1048576: true; the input reads as it did. -/
def quantityBackUptoRow : OpenClaim := { program := "ytdfokoapenhalaadoor", sum := "af7cfb4507f30530d482cce215e88157c8fc46e0cac95e4fc066a71bf79674c8", func := "estoppel/estoppellaw04.QuantityBack", spec := "quantityBack", unfollowed := true, recurses := true, named := ["estoppel/quantity.whole"], apart := false, laid := [("estoppel/quantity.whole", laid_estoppel_quantity_whole)], narrowed := true }
def QuantityBackUptoSaid : Prop := quantityBackUptoRow.holds Tryd.pinned (OpenSpec.upto quantityBackSpec)

/-- 'estoppellaw04.QuantityWay', WHERE WHAT IT READS IS OF BULK AT MOST 1048576: true; the input reads as it did. -/
def quantityWayUptoRow : OpenClaim := { program := "ytdfokoapenhalaadoor", sum := "af7cfb4507f30530d482cce215e88157c8fc46e0cac95e4fc066a71bf79674c8", func := "estoppel/estoppellaw04.QuantityWay", spec := "quantityWay", unfollowed := true, recurses := true, named := ["estoppel/quantity.whole"], apart := false, laid := [("estoppel/quantity.whole", laid_estoppel_quantity_whole)], narrowed := true }
def QuantityWayUptoSaid : Prop := quantityWayUptoRow.holds Tryd.pinned (OpenSpec.upto quantityWaySpec)

/-- 'estoppellaw04.QuantityLinear', WHERE WHAT IT READS IS OF BULK AT MOST 1048576: true; the input reads as it did. -/
def quantityLinearUptoRow : OpenClaim := { program := "ytdfokoapenhalaadoor", sum := "af7cfb4507f30530d482cce215e88157c8fc46e0cac95e4fc066a71bf79674c8", func := "estoppel/estoppellaw04.QuantityLinear", spec := "quantityLinear", unfollowed := true, recurses := true, named := ["estoppel/quantity.whole"], apart := false, laid := [("estoppel/quantity.whole", laid_estoppel_quantity_whole)], narrowed := true }
def QuantityLinearUptoSaid : Prop := quantityLinearUptoRow.holds Tryd.pinned (OpenSpec.upto quantityLinearSpec)

/-- 'estoppellaw04.QuantitySums', WHERE WHAT IT READS IS OF BULK AT MOST 1048576: true; the input reads as it did. -/
def quantitySumsUptoRow : OpenClaim := { program := "ytdfokoapenhalaadoor", sum := "af7cfb4507f30530d482cce215e88157c8fc46e0cac95e4fc066a71bf79674c8", func := "estoppel/estoppellaw04.QuantitySums", spec := "quantitySums", unfollowed := true, recurses := true, named := ["estoppel/quantity.whole"], apart := false, laid := [("estoppel/quantity.whole", laid_estoppel_quantity_whole)], narrowed := true }
def QuantitySumsUptoSaid : Prop := quantitySumsUptoRow.holds Tryd.pinned (OpenSpec.upto quantitySumsSpec)

/-- 'estoppellaw04.QuantityBaskets', WHERE WHAT IT READS IS OF BULK AT MOST 1048576: true; the input reads as it did. -/
def quantityBasketsUptoRow : OpenClaim := { program := "ytdfokoapenhalaadoor", sum := "af7cfb4507f30530d482cce215e88157c8fc46e0cac95e4fc066a71bf79674c8", func := "estoppel/estoppellaw04.QuantityBaskets", spec := "quantityBaskets", unfollowed := true, recurses := true, named := ["estoppel/quantity.whole"], apart := false, laid := [("estoppel/quantity.whole", laid_estoppel_quantity_whole)], narrowed := true }
def QuantityBasketsUptoSaid : Prop := quantityBasketsUptoRow.holds Tryd.pinned (OpenSpec.upto quantityBasketsSpec)

/-- 'estoppellaw04.QuantityCovers', WHERE WHAT IT READS IS OF BULK AT MOST 1048576: true; the input reads as it did. -/
def quantityCoversUptoRow : OpenClaim := { program := "ytdfokoapenhalaadoor", sum := "af7cfb4507f30530d482cce215e88157c8fc46e0cac95e4fc066a71bf79674c8", func := "estoppel/estoppellaw04.QuantityCovers", spec := "quantityCovers", unfollowed := true, recurses := true, named := ["estoppel/quantity.whole"], apart := false, laid := [("estoppel/quantity.whole", laid_estoppel_quantity_whole)], narrowed := true }
def QuantityCoversUptoSaid : Prop := quantityCoversUptoRow.holds Tryd.pinned (OpenSpec.upto quantityCoversSpec)

end Rows
end Go.Proofs.YtdfokoapenhalaaDoor
