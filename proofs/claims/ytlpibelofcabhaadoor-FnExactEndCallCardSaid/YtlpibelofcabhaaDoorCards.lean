/-
  DERIVED. GIVEN WITH THE SEED: THE CARDS: each row of YtlpibelofcabhaaDoorRows.lean that lists a variable, with what it lists TIED to the program's text (the seventh form; the later family's looks); each row that meets fmt, with fmt's text TOLD by the authors' own Lean function (tested against real Go, not proved from fmt's source: count such statements apart). THE CARD IS WHAT COUNTS. Prove the row's statement (the work); the ties are given (YtlpibelofcabhaaDoorTie.lean); close each card by the builder's one call (the guide's Derived/Test/ToyasCard.lean, 'card_holds'). Laid BY PROGRAM, IN A SANDBOX (cutbox-door.mjs). By AI agents, Wed Nov 11 2026. No macro, syntax, notation, axiom, sorry.
-/
import Derived.Test.YtlpibelofcabhaaDoorRows
import GoSem.ClaimSeven
namespace Go.Proofs.YtlpibelofcabhaaDoor
namespace Rows

/-- THE TIED CARD OF 'laws.FnExactEndCall'. -/
def fnExactEndCallCard : Claim7 := { stood := { row := fnExactEndCallRow, standIns := [], harness := (true, "1c04bd6a86266981895bd546d5c898ccc36c39184aefc0399995b0a5a2a89666"), looks := false }, kinds := [], alts := [], laidByText := true, laidKinds := [.data, .data, .data], laidTests := true, laidLooks := .later }
def FnExactEndCallCardSaid : Prop := Claim7.holds Tryd.pinned (.plain (OpenSpec.ofChange fnExactEndCallSpec)) fnExactEndCallCard

/-- THE SECOND FORM's CARD OF 'laws.FnExactEndCall'. -/
def fnExactEndCallUptoCard : Claim7 := { stood := { row := fnExactEndCallUptoRow, standIns := [], harness := (true, "1c04bd6a86266981895bd546d5c898ccc36c39184aefc0399995b0a5a2a89666"), looks := false }, kinds := [], alts := [], laidByText := true, laidKinds := [.data, .data, .data], laidTests := true, laidLooks := .later }
def FnExactEndCallUptoCardSaid : Prop := Claim7.holds Tryd.pinned (.plain (OpenSpec.upto fnExactEndCallSpec)) fnExactEndCallUptoCard
end Rows
end Go.Proofs.YtlpibelofcabhaaDoor
