/-
  DERIVED. GIVEN WITH THE SEED: THE CARDS: each row of YtmkhoggpejemiaaDoorRows.lean that lists a variable, with what it lists TIED to the program's text (the seventh form; the later family's looks); each row that meets fmt, with fmt's text TOLD by the authors' own Lean function (tested against real Go, not proved from fmt's source: count such statements apart). THE CARD IS WHAT COUNTS. Prove the row's statement (the work); the ties are given (YtmkhoggpejemiaaDoorTie.lean); close each card by the builder's one call (the guide's Derived/Test/ToyasCard.lean, 'card_holds'). Laid BY PROGRAM, IN A SANDBOX (cutbox-door.mjs). By AI agents, Wed Nov 11 2026. No macro, syntax, notation, axiom, sorry.
-/
import Derived.Test.YtmkhoggpejemiaaDoorRows
import GoSem.ClaimSeven
namespace Go.Proofs.YtmkhoggpejemiaaDoor
namespace Rows

/-- THE TIED CARD OF 'laws.FnExactTurnText'. -/
def fnExactTurnTextCard : Claim7 := { stood := { row := fnExactTurnTextRow, standIns := [], harness := (true, "e472a02504361f30c7bc376e2f323f06eb7cea95633b30008157c1c66a6b7ead"), looks := true }, kinds := [], alts := [], laidByText := true, laidKinds := [.data, .data, .data], laidTests := true, laidLooks := .later }
def FnExactTurnTextCardSaid : Prop := Claim7.holds Tryd.pinned (.plain (OpenSpec.ofChange fnExactTurnTextSpec)) fnExactTurnTextCard

/-- THE TIED CARD OF 'laws.FnExactStateText'. -/
def fnExactStateTextCard : Claim7 := { stood := { row := fnExactStateTextRow, standIns := [], harness := (true, "e472a02504361f30c7bc376e2f323f06eb7cea95633b30008157c1c66a6b7ead"), looks := true }, kinds := [], alts := [], laidByText := true, laidKinds := [.data, .data, .data], laidTests := true, laidLooks := .later }
def FnExactStateTextCardSaid : Prop := Claim7.holds Tryd.pinned (.plain (OpenSpec.ofChange fnExactStateTextSpec)) fnExactStateTextCard

/-- THE TIED CARD OF 'laws.FnExactReadTurn'. -/
def fnExactReadTurnCard : Claim7 := { stood := { row := fnExactReadTurnRow, standIns := [], harness := (true, "e472a02504361f30c7bc376e2f323f06eb7cea95633b30008157c1c66a6b7ead"), looks := true }, kinds := [], alts := [], laidByText := true, laidKinds := [.data, .data, .data, .data, .sentinel, .sentinel, .pinned], laidTests := true, laidLooks := .later }
def FnExactReadTurnCardSaid : Prop := Claim7.holds Tryd.pinned (.plain (OpenSpec.ofChange fnExactReadTurnSpec)) fnExactReadTurnCard

/-- THE TIED CARD OF 'laws.FnExactReadState'. -/
def fnExactReadStateCard : Claim7 := { stood := { row := fnExactReadStateRow, standIns := [], harness := (true, "e472a02504361f30c7bc376e2f323f06eb7cea95633b30008157c1c66a6b7ead"), looks := true }, kinds := [], alts := [], laidByText := true, laidKinds := [.data, .data, .data, .data, .sentinel, .sentinel, .pinned], laidTests := true, laidLooks := .later }
def FnExactReadStateCardSaid : Prop := Claim7.holds Tryd.pinned (.plain (OpenSpec.ofChange fnExactReadStateSpec)) fnExactReadStateCard

/-- THE SECOND FORM's CARD OF 'laws.FnExactTurnText'. -/
def fnExactTurnTextUptoCard : Claim7 := { stood := { row := fnExactTurnTextUptoRow, standIns := [], harness := (true, "e472a02504361f30c7bc376e2f323f06eb7cea95633b30008157c1c66a6b7ead"), looks := true }, kinds := [], alts := [], laidByText := true, laidKinds := [.data, .data, .data], laidTests := true, laidLooks := .later }
def FnExactTurnTextUptoCardSaid : Prop := Claim7.holds Tryd.pinned (.plain (OpenSpec.upto fnExactTurnTextSpec)) fnExactTurnTextUptoCard

/-- THE SECOND FORM's CARD OF 'laws.FnExactStateText'. -/
def fnExactStateTextUptoCard : Claim7 := { stood := { row := fnExactStateTextUptoRow, standIns := [], harness := (true, "e472a02504361f30c7bc376e2f323f06eb7cea95633b30008157c1c66a6b7ead"), looks := true }, kinds := [], alts := [], laidByText := true, laidKinds := [.data, .data, .data], laidTests := true, laidLooks := .later }
def FnExactStateTextUptoCardSaid : Prop := Claim7.holds Tryd.pinned (.plain (OpenSpec.upto fnExactStateTextSpec)) fnExactStateTextUptoCard

/-- THE SECOND FORM's CARD OF 'laws.FnExactReadTurn'. -/
def fnExactReadTurnUptoCard : Claim7 := { stood := { row := fnExactReadTurnUptoRow, standIns := [], harness := (true, "e472a02504361f30c7bc376e2f323f06eb7cea95633b30008157c1c66a6b7ead"), looks := true }, kinds := [], alts := [], laidByText := true, laidKinds := [.data, .data, .data, .data, .sentinel, .sentinel, .pinned], laidTests := true, laidLooks := .later }
def FnExactReadTurnUptoCardSaid : Prop := Claim7.holds Tryd.pinned (.plain (OpenSpec.upto fnExactReadTurnSpec)) fnExactReadTurnUptoCard

/-- THE SECOND FORM's CARD OF 'laws.FnExactReadState'. -/
def fnExactReadStateUptoCard : Claim7 := { stood := { row := fnExactReadStateUptoRow, standIns := [], harness := (true, "e472a02504361f30c7bc376e2f323f06eb7cea95633b30008157c1c66a6b7ead"), looks := true }, kinds := [], alts := [], laidByText := true, laidKinds := [.data, .data, .data, .data, .sentinel, .sentinel, .pinned], laidTests := true, laidLooks := .later }
def FnExactReadStateUptoCardSaid : Prop := Claim7.holds Tryd.pinned (.plain (OpenSpec.upto fnExactReadStateSpec)) fnExactReadStateUptoCard
end Rows
end Go.Proofs.YtmkhoggpejemiaaDoor
