/-
  DERIVED. GIVEN WITH THE SEED: THE CARDS: each row of YtajjleldnobhmaaDoorRows.lean that lists a variable, with what it lists TIED to the program's text (the seventh form; the later family's looks); each row that meets fmt, with fmt's text TOLD by the authors' own Lean function (tested against real Go, not proved from fmt's source: count such statements apart). THE CARD IS WHAT COUNTS. Prove the row's statement (the work); the ties are given (YtajjleldnobhmaaDoorTie.lean); close each card by the builder's one call (the guide's Derived/Test/ToyasCard.lean, 'card_holds'). Laid BY PROGRAM, IN A SANDBOX (cutbox-door.mjs). By AI agents, Wed Nov 11 2026. No macro, syntax, notation, axiom, sorry.
-/
import Derived.Test.YtajjleldnobhmaaDoorRows
import GoSem.ClaimSeven
namespace Go.Proofs.YtajjleldnobhmaaDoor
namespace Rows

/-- THE TIED CARD OF 'laws.FnAnswer'. -/
def fnAnswerCard : Claim7 := { stood := { row := fnAnswerRow, standIns := [], harness := (true, "0394f5375a3a36c9f44e3c30309ee26efbfd81b4ba8ce3abfc2670183ff87bd5"), looks := false }, kinds := [], alts := [], laidByText := true, laidKinds := [.data, .data, .data], laidTests := true, laidLooks := .later }
def FnAnswerCardSaid : Prop := Claim7.holds Tryd.pinned (.plain (OpenSpec.ofChange fnAnswerSpec)) fnAnswerCard

/-- THE TIED CARD OF 'laws.FnAnswerParts'. -/
def fnAnswerPartsCard : Claim7 := { stood := { row := fnAnswerPartsRow, standIns := [], harness := (true, "0394f5375a3a36c9f44e3c30309ee26efbfd81b4ba8ce3abfc2670183ff87bd5"), looks := false }, kinds := [], alts := [], laidByText := true, laidKinds := [.data, .data, .data], laidTests := true, laidLooks := .later }
def FnAnswerPartsCardSaid : Prop := Claim7.holds Tryd.pinned (.plain (OpenSpec.ofChange fnAnswerPartsSpec)) fnAnswerPartsCard

/-- THE TIED CARD OF 'laws.FnExactEndAnswer'. -/
def fnExactEndAnswerCard : Claim7 := { stood := { row := fnExactEndAnswerRow, standIns := [], harness := (true, "0394f5375a3a36c9f44e3c30309ee26efbfd81b4ba8ce3abfc2670183ff87bd5"), looks := false }, kinds := [], alts := [], laidByText := true, laidKinds := [.data, .data, .data], laidTests := true, laidLooks := .later }
def FnExactEndAnswerCardSaid : Prop := Claim7.holds Tryd.pinned (.plain (OpenSpec.ofChange fnExactEndAnswerSpec)) fnExactEndAnswerCard

/-- THE SECOND FORM's CARD OF 'laws.FnAnswer'. -/
def fnAnswerUptoCard : Claim7 := { stood := { row := fnAnswerUptoRow, standIns := [], harness := (true, "0394f5375a3a36c9f44e3c30309ee26efbfd81b4ba8ce3abfc2670183ff87bd5"), looks := false }, kinds := [], alts := [], laidByText := true, laidKinds := [.data, .data, .data], laidTests := true, laidLooks := .later }
def FnAnswerUptoCardSaid : Prop := Claim7.holds Tryd.pinned (.plain (OpenSpec.upto fnAnswerSpec)) fnAnswerUptoCard

/-- THE SECOND FORM's CARD OF 'laws.FnAnswerParts'. -/
def fnAnswerPartsUptoCard : Claim7 := { stood := { row := fnAnswerPartsUptoRow, standIns := [], harness := (true, "0394f5375a3a36c9f44e3c30309ee26efbfd81b4ba8ce3abfc2670183ff87bd5"), looks := false }, kinds := [], alts := [], laidByText := true, laidKinds := [.data, .data, .data], laidTests := true, laidLooks := .later }
def FnAnswerPartsUptoCardSaid : Prop := Claim7.holds Tryd.pinned (.plain (OpenSpec.upto fnAnswerPartsSpec)) fnAnswerPartsUptoCard

/-- THE SECOND FORM's CARD OF 'laws.FnExactEndAnswer'. -/
def fnExactEndAnswerUptoCard : Claim7 := { stood := { row := fnExactEndAnswerUptoRow, standIns := [], harness := (true, "0394f5375a3a36c9f44e3c30309ee26efbfd81b4ba8ce3abfc2670183ff87bd5"), looks := false }, kinds := [], alts := [], laidByText := true, laidKinds := [.data, .data, .data], laidTests := true, laidLooks := .later }
def FnExactEndAnswerUptoCardSaid : Prop := Claim7.holds Tryd.pinned (.plain (OpenSpec.upto fnExactEndAnswerSpec)) fnExactEndAnswerUptoCard
end Rows
end Go.Proofs.YtajjleldnobhmaaDoor
