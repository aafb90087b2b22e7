/-
  DERIVED. GIVEN WITH THE SEED: THE CARDS: each row of YtdfokoapenhalaaDoorRows.lean that lists a variable, with what it lists TIED to the program's text (the seventh form; the later family's looks); each row that meets fmt, with fmt's text TOLD by the authors' own Lean function (tested against real Go, not proved from fmt's source: count such statements apart). THE CARD IS WHAT COUNTS. Prove the row's statement (the work); the ties are given (YtdfokoapenhalaaDoorTie.lean); close each card by the builder's one call (the guide's Derived/Test/ToyasCard.lean, 'card_holds'). Laid BY PROGRAM, IN A SANDBOX (cutbox-door.mjs). By AI agents, Wed Nov 11 2026. No macro, syntax, notation, axiom, sorry.
-/
import Derived.Test.YtdfokoapenhalaaDoorRows
import GoSem.ClaimSeven
namespace Go.Proofs.YtdfokoapenhalaaDoor
namespace Rows

/-- THE TIED CARD OF 'estoppellaw04.QuantityMatchesReference'. -/
def quantityMatchesReferenceCard : Claim7 := { stood := { row := quantityMatchesReferenceRow, standIns := [], harness := (true, "6867acbaabb68cd7c34b53de66ea4ded7947b1d7055f5055d140da67334d79d3"), looks := false }, kinds := [], alts := [], laidByText := true, laidKinds := [.data], laidTests := true, laidLooks := .later }
def QuantityMatchesReferenceCardSaid : Prop := Claim7.holds Tryd.pinned (.plain (OpenSpec.ofChange quantityMatchesReferenceSpec)) quantityMatchesReferenceCard

/-- THE TIED CARD OF 'estoppellaw04.QuantityTables'. -/
def quantityTablesCard : Claim7 := { stood := { row := quantityTablesRow, standIns := [], harness := (true, "6867acbaabb68cd7c34b53de66ea4ded7947b1d7055f5055d140da67334d79d3"), looks := false }, kinds := [], alts := [], laidByText := true, laidKinds := [.data], laidTests := true, laidLooks := .later }
def QuantityTablesCardSaid : Prop := Claim7.holds Tryd.pinned (.plain (OpenSpec.ofChange quantityTablesSpec)) quantityTablesCard

/-- THE TIED CARD OF 'estoppellaw04.QuantityBack'. -/
def quantityBackCard : Claim7 := { stood := { row := quantityBackRow, standIns := [], harness := (true, "6867acbaabb68cd7c34b53de66ea4ded7947b1d7055f5055d140da67334d79d3"), looks := false }, kinds := [], alts := [], laidByText := true, laidKinds := [.data], laidTests := true, laidLooks := .later }
def QuantityBackCardSaid : Prop := Claim7.holds Tryd.pinned (.plain (OpenSpec.ofChange quantityBackSpec)) quantityBackCard

/-- THE TIED CARD OF 'estoppellaw04.QuantityWay'. -/
def quantityWayCard : Claim7 := { stood := { row := quantityWayRow, standIns := [], harness := (true, "6867acbaabb68cd7c34b53de66ea4ded7947b1d7055f5055d140da67334d79d3"), looks := false }, kinds := [], alts := [], laidByText := true, laidKinds := [.data], laidTests := true, laidLooks := .later }
def QuantityWayCardSaid : Prop := Claim7.holds Tryd.pinned (.plain (OpenSpec.ofChange quantityWaySpec)) quantityWayCard

/-- THE TIED CARD OF 'estoppellaw04.QuantityLinear'. -/
def quantityLinearCard : Claim7 := { stood := { row := quantityLinearRow, standIns := [], harness := (true, "6867acbaabb68cd7c34b53de66ea4ded7947b1d7055f5055d140da67334d79d3"), looks := false }, kinds := [], alts := [], laidByText := true, laidKinds := [.data], laidTests := true, laidLooks := .later }
def QuantityLinearCardSaid : Prop := Claim7.holds Tryd.pinned (.plain (OpenSpec.ofChange quantityLinearSpec)) quantityLinearCard

/-- THE TIED CARD OF 'estoppellaw04.QuantitySums'. -/
def quantitySumsCard : Claim7 := { stood := { row := quantitySumsRow, standIns := [], harness := (true, "6867acbaabb68cd7c34b53de66ea4ded7947b1d7055f5055d140da67334d79d3"), looks := false }, kinds := [], alts := [], laidByText := true, laidKinds := [.data], laidTests := true, laidLooks := .later }
def QuantitySumsCardSaid : Prop := Claim7.holds Tryd.pinned (.plain (OpenSpec.ofChange quantitySumsSpec)) quantitySumsCard

/-- THE TIED CARD OF 'estoppellaw04.QuantityBaskets'. -/
def quantityBasketsCard : Claim7 := { stood := { row := quantityBasketsRow, standIns := [], harness := (true, "6867acbaabb68cd7c34b53de66ea4ded7947b1d7055f5055d140da67334d79d3"), looks := false }, kinds := [], alts := [], laidByText := true, laidKinds := [.data], laidTests := true, laidLooks := .later }
def QuantityBasketsCardSaid : Prop := Claim7.holds Tryd.pinned (.plain (OpenSpec.ofChange quantityBasketsSpec)) quantityBasketsCard

/-- THE TIED CARD OF 'estoppellaw04.QuantityCovers'. -/
def quantityCoversCard : Claim7 := { stood := { row := quantityCoversRow, standIns := [], harness := (true, "6867acbaabb68cd7c34b53de66ea4ded7947b1d7055f5055d140da67334d79d3"), looks := false }, kinds := [], alts := [], laidByText := true, laidKinds := [.data], laidTests := true, laidLooks := .later }
def QuantityCoversCardSaid : Prop := Claim7.holds Tryd.pinned (.plain (OpenSpec.ofChange quantityCoversSpec)) quantityCoversCard

/-- THE SECOND FORM's CARD OF 'estoppellaw04.QuantityMatchesReference'. -/
def quantityMatchesReferenceUptoCard : Claim7 := { stood := { row := quantityMatchesReferenceUptoRow, standIns := [], harness := (true, "6867acbaabb68cd7c34b53de66ea4ded7947b1d7055f5055d140da67334d79d3"), looks := false }, kinds := [], alts := [], laidByText := true, laidKinds := [.data], laidTests := true, laidLooks := .later }
def QuantityMatchesReferenceUptoCardSaid : Prop := Claim7.holds Tryd.pinned (.plain (OpenSpec.upto quantityMatchesReferenceSpec)) quantityMatchesReferenceUptoCard

/-- THE SECOND FORM's CARD OF 'estoppellaw04.QuantityTables'. -/
def quantityTablesUptoCard : Claim7 := { stood := { row := quantityTablesUptoRow, standIns := [], harness := (true, "6867acbaabb68cd7c34b53de66ea4ded7947b1d7055f5055d140da67334d79d3"), looks := false }, kinds := [], alts := [], laidByText := true, laidKinds := [.data], laidTests := true, laidLooks := .later }
def QuantityTablesUptoCardSaid : Prop := Claim7.holds Tryd.pinned (.plain (OpenSpec.upto quantityTablesSpec)) quantityTablesUptoCard

/-- THE SECOND FORM's CARD OF 'estoppellaw04.QuantityBack'. -/
def quantityBackUptoCard : Claim7 := { stood := { row := quantityBackUptoRow, standIns := [], harness := (true, "6867acbaabb68cd7c34b53de66ea4ded7947b1d7055f5055d140da67334d79d3"), looks := false }, kinds := [], alts := [], laidByText := true, laidKinds := [.data], laidTests := true, laidLooks := .later }
def QuantityBackUptoCardSaid : Prop := Claim7.holds Tryd.pinned (.plain (OpenSpec.upto quantityBackSpec)) quantityBackUptoCard

/-- THE SECOND FORM's CARD OF 'estoppellaw04.QuantityWay'. -/
def quantityWayUptoCard : Claim7 := { stood := { row := quantityWayUptoRow, standIns := [], harness := (true, "6867acbaabb68cd7c34b53de66ea4ded7947b1d7055f5055d140da67334d79d3"), looks := false }, kinds := [], alts := [], laidByText := true, laidKinds := [.data], laidTests := true, laidLooks := .later }
def QuantityWayUptoCardSaid : Prop := Claim7.holds Tryd.pinned (.plain (OpenSpec.upto quantityWaySpec)) quantityWayUptoCard

/-- THE SECOND FORM's CARD OF 'estoppellaw04.QuantityLinear'. -/
def quantityLinearUptoCard : Claim7 := { stood := { row := quantityLinearUptoRow, standIns := [], harness := (true, "6867acbaabb68cd7c34b53de66ea4ded7947b1d7055f5055d140da67334d79d3"), looks := false }, kinds := [], alts := [], laidByText := true, laidKinds := [.data], laidTests := true, laidLooks := .later }
def QuantityLinearUptoCardSaid : Prop := Claim7.holds Tryd.pinned (.plain (OpenSpec.upto quantityLinearSpec)) quantityLinearUptoCard

/-- THE SECOND FORM's CARD OF 'estoppellaw04.QuantitySums'. -/
def quantitySumsUptoCard : Claim7 := { stood := { row := quantitySumsUptoRow, standIns := [], harness := (true, "6867acbaabb68cd7c34b53de66ea4ded7947b1d7055f5055d140da67334d79d3"), looks := false }, kinds := [], alts := [], laidByText := true, laidKinds := [.data], laidTests := true, laidLooks := .later }
def QuantitySumsUptoCardSaid : Prop := Claim7.holds Tryd.pinned (.plain (OpenSpec.upto quantitySumsSpec)) quantitySumsUptoCard

/-- THE SECOND FORM's CARD OF 'estoppellaw04.QuantityBaskets'. -/
def quantityBasketsUptoCard : Claim7 := { stood := { row := quantityBasketsUptoRow, standIns := [], harness := (true, "6867acbaabb68cd7c34b53de66ea4ded7947b1d7055f5055d140da67334d79d3"), looks := false }, kinds := [], alts := [], laidByText := true, laidKinds := [.data], laidTests := true, laidLooks := .later }
def QuantityBasketsUptoCardSaid : Prop := Claim7.holds Tryd.pinned (.plain (OpenSpec.upto quantityBasketsSpec)) quantityBasketsUptoCard

/-- THE SECOND FORM's CARD OF 'estoppellaw04.QuantityCovers'. -/
def quantityCoversUptoCard : Claim7 := { stood := { row := quantityCoversUptoRow, standIns := [], harness := (true, "6867acbaabb68cd7c34b53de66ea4ded7947b1d7055f5055d140da67334d79d3"), looks := false }, kinds := [], alts := [], laidByText := true, laidKinds := [.data], laidTests := true, laidLooks := .later }
def QuantityCoversUptoCardSaid : Prop := Claim7.holds Tryd.pinned (.plain (OpenSpec.upto quantityCoversSpec)) quantityCoversUptoCard
end Rows
end Go.Proofs.YtdfokoapenhalaaDoor
