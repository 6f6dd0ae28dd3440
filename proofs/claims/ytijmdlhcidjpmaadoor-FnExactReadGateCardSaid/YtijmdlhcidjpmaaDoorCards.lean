/-
  DERIVED. GIVEN WITH THE SEED: THE CARDS: each row of YtijmdlhcidjpmaaDoorRows.lean that lists a variable, with what it lists TIED to the program's text (the seventh form; the later family's looks); each row that meets fmt, with fmt's text TOLD by the authors' own Lean function (tested against real Go, not proved from fmt's source: count such statements apart). THE CARD IS WHAT COUNTS. Prove the row's statement (the work); the ties are given (YtijmdlhcidjpmaaDoorTie.lean); close each card by the builder's one call (the guide's Derived/Test/ToyasCard.lean, 'card_holds'). Laid BY PROGRAM, IN A SANDBOX (cutbox-door.mjs). By AI agents, Wed Nov 11 2026. No macro, syntax, notation, axiom, sorry.
-/
import Derived.Test.YtijmdlhcidjpmaaDoorRows
import GoSem.ClaimSeven
namespace Go.Proofs.YtijmdlhcidjpmaaDoor
namespace Rows

/-- THE TIED CARD OF 'laws.FnExactMatrixText'. -/
def fnExactMatrixTextCard : Claim7 := { stood := { row := fnExactMatrixTextRow, standIns := [], harness := (true, "76b177948d0ae43f40923df544757246c1822bc94295df3ba3acdd2cf38c500f"), looks := true }, kinds := [], alts := [], laidByText := true, laidKinds := [.data, .data, .data], laidTests := true, laidLooks := .later }
def FnExactMatrixTextCardSaid : Prop := Claim7.holds Tryd.pinned (.plain (OpenSpec.ofChange fnExactMatrixTextSpec)) fnExactMatrixTextCard

/-- THE TIED CARD OF 'laws.FnExactFamilyText'. -/
def fnExactFamilyTextCard : Claim7 := { stood := { row := fnExactFamilyTextRow, standIns := [], harness := (true, "76b177948d0ae43f40923df544757246c1822bc94295df3ba3acdd2cf38c500f"), looks := true }, kinds := [], alts := [], laidByText := true, laidKinds := [.data, .data, .data], laidTests := true, laidLooks := .later }
def FnExactFamilyTextCardSaid : Prop := Claim7.holds Tryd.pinned (.plain (OpenSpec.ofChange fnExactFamilyTextSpec)) fnExactFamilyTextCard

/-- THE TIED CARD OF 'laws.FnExactGateText'. -/
def fnExactGateTextCard : Claim7 := { stood := { row := fnExactGateTextRow, standIns := [], harness := (true, "76b177948d0ae43f40923df544757246c1822bc94295df3ba3acdd2cf38c500f"), looks := true }, kinds := [], alts := [], laidByText := true, laidKinds := [.data, .data, .data], laidTests := true, laidLooks := .later }
def FnExactGateTextCardSaid : Prop := Claim7.holds Tryd.pinned (.plain (OpenSpec.ofChange fnExactGateTextSpec)) fnExactGateTextCard

/-- THE TIED CARD OF 'laws.FnExactReadGate'. -/
def fnExactReadGateCard : Claim7 := { stood := { row := fnExactReadGateRow, standIns := [], harness := (true, "76b177948d0ae43f40923df544757246c1822bc94295df3ba3acdd2cf38c500f"), looks := true }, kinds := [], alts := [], laidByText := true, laidKinds := [.data, .data, .data, .sentinel, .sentinel], laidTests := true, laidLooks := .later }
def FnExactReadGateCardSaid : Prop := Claim7.holds Tryd.pinned (.plain (OpenSpec.ofChange fnExactReadGateSpec)) fnExactReadGateCard

/-- THE TIED CARD OF 'laws.FnExactReadMatrix'. -/
def fnExactReadMatrixCard : Claim7 := { stood := { row := fnExactReadMatrixRow, standIns := [], harness := (true, "76b177948d0ae43f40923df544757246c1822bc94295df3ba3acdd2cf38c500f"), looks := true }, kinds := [], alts := [], laidByText := true, laidKinds := [.data, .data, .data, .data, .sentinel, .sentinel, .pinned], laidTests := true, laidLooks := .later }
def FnExactReadMatrixCardSaid : Prop := Claim7.holds Tryd.pinned (.plain (OpenSpec.ofChange fnExactReadMatrixSpec)) fnExactReadMatrixCard

/-- THE TIED CARD OF 'laws.FnExactReadFamily'. -/
def fnExactReadFamilyCard : Claim7 := { stood := { row := fnExactReadFamilyRow, standIns := [], harness := (true, "76b177948d0ae43f40923df544757246c1822bc94295df3ba3acdd2cf38c500f"), looks := true }, kinds := [], alts := [], laidByText := true, laidKinds := [.data, .data, .data, .data, .sentinel, .sentinel, .pinned], laidTests := true, laidLooks := .later }
def FnExactReadFamilyCardSaid : Prop := Claim7.holds Tryd.pinned (.plain (OpenSpec.ofChange fnExactReadFamilySpec)) fnExactReadFamilyCard

/-- THE SECOND FORM's CARD OF 'laws.FnExactMatrixText'. -/
def fnExactMatrixTextUptoCard : Claim7 := { stood := { row := fnExactMatrixTextUptoRow, standIns := [], harness := (true, "76b177948d0ae43f40923df544757246c1822bc94295df3ba3acdd2cf38c500f"), looks := true }, kinds := [], alts := [], laidByText := true, laidKinds := [.data, .data, .data], laidTests := true, laidLooks := .later }
def FnExactMatrixTextUptoCardSaid : Prop := Claim7.holds Tryd.pinned (.plain (OpenSpec.upto fnExactMatrixTextSpec)) fnExactMatrixTextUptoCard

/-- THE SECOND FORM's CARD OF 'laws.FnExactFamilyText'. -/
def fnExactFamilyTextUptoCard : Claim7 := { stood := { row := fnExactFamilyTextUptoRow, standIns := [], harness := (true, "76b177948d0ae43f40923df544757246c1822bc94295df3ba3acdd2cf38c500f"), looks := true }, kinds := [], alts := [], laidByText := true, laidKinds := [.data, .data, .data], laidTests := true, laidLooks := .later }
def FnExactFamilyTextUptoCardSaid : Prop := Claim7.holds Tryd.pinned (.plain (OpenSpec.upto fnExactFamilyTextSpec)) fnExactFamilyTextUptoCard

/-- THE SECOND FORM's CARD OF 'laws.FnExactGateText'. -/
def fnExactGateTextUptoCard : Claim7 := { stood := { row := fnExactGateTextUptoRow, standIns := [], harness := (true, "76b177948d0ae43f40923df544757246c1822bc94295df3ba3acdd2cf38c500f"), looks := true }, kinds := [], alts := [], laidByText := true, laidKinds := [.data, .data, .data], laidTests := true, laidLooks := .later }
def FnExactGateTextUptoCardSaid : Prop := Claim7.holds Tryd.pinned (.plain (OpenSpec.upto fnExactGateTextSpec)) fnExactGateTextUptoCard

/-- THE SECOND FORM's CARD OF 'laws.FnExactReadGate'. -/
def fnExactReadGateUptoCard : Claim7 := { stood := { row := fnExactReadGateUptoRow, standIns := [], harness := (true, "76b177948d0ae43f40923df544757246c1822bc94295df3ba3acdd2cf38c500f"), looks := true }, kinds := [], alts := [], laidByText := true, laidKinds := [.data, .data, .data, .sentinel, .sentinel], laidTests := true, laidLooks := .later }
def FnExactReadGateUptoCardSaid : Prop := Claim7.holds Tryd.pinned (.plain (OpenSpec.upto fnExactReadGateSpec)) fnExactReadGateUptoCard

/-- THE SECOND FORM's CARD OF 'laws.FnExactReadMatrix'. -/
def fnExactReadMatrixUptoCard : Claim7 := { stood := { row := fnExactReadMatrixUptoRow, standIns := [], harness := (true, "76b177948d0ae43f40923df544757246c1822bc94295df3ba3acdd2cf38c500f"), looks := true }, kinds := [], alts := [], laidByText := true, laidKinds := [.data, .data, .data, .data, .sentinel, .sentinel, .pinned], laidTests := true, laidLooks := .later }
def FnExactReadMatrixUptoCardSaid : Prop := Claim7.holds Tryd.pinned (.plain (OpenSpec.upto fnExactReadMatrixSpec)) fnExactReadMatrixUptoCard

/-- THE SECOND FORM's CARD OF 'laws.FnExactReadFamily'. -/
def fnExactReadFamilyUptoCard : Claim7 := { stood := { row := fnExactReadFamilyUptoRow, standIns := [], harness := (true, "76b177948d0ae43f40923df544757246c1822bc94295df3ba3acdd2cf38c500f"), looks := true }, kinds := [], alts := [], laidByText := true, laidKinds := [.data, .data, .data, .data, .sentinel, .sentinel, .pinned], laidTests := true, laidLooks := .later }
def FnExactReadFamilyUptoCardSaid : Prop := Claim7.holds Tryd.pinned (.plain (OpenSpec.upto fnExactReadFamilySpec)) fnExactReadFamilyUptoCard
end Rows
end Go.Proofs.YtijmdlhcidjpmaaDoor
