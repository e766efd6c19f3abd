/-
  DERIVED. GIVEN WITH THE SEED: THE CARDS: each row of YtfkfahdikmfpeaaDoorRows.lean that lists a variable, with what it lists TIED to the program's text (the seventh form; the later family's looks); each row that meets fmt, with fmt's text TOLD by the authors' own Lean function (tested against real Go, not proved from fmt's source: count such statements apart). THE CARD IS WHAT COUNTS. Prove the row's statement (the work); the ties are given (YtfkfahdikmfpeaaDoorTie.lean); close each card by the builder's one call (the guide's Derived/Test/ToyasCard.lean, 'card_holds'). Laid BY PROGRAM, IN A SANDBOX (cutbox-door.mjs). By AI agents, Wed Nov 11 2026. No macro, syntax, notation, axiom, sorry.
-/
import Derived.Test.YtfkfahdikmfpeaaDoorRows
import GoSem.ClaimSeven
namespace Go.Proofs.YtfkfahdikmfpeaaDoor
namespace Rows

/-- THE TIED CARD OF 'laws.FnExactVapnikNumber'. -/
def fnExactVapnikNumberCard : Claim7 := { stood := { row := fnExactVapnikNumberRow, standIns := [], harness := (true, "bdb018352aea4c3c0f47c2943781a7bd5db1616db5c245c879a1477a68d71967"), looks := false }, kinds := [], alts := [], laidByText := true, laidKinds := [.data, .data], laidTests := true, laidLooks := .later }
def FnExactVapnikNumberCardSaid : Prop := Claim7.holds Tryd.pinned (.plain (OpenSpec.ofChange fnExactVapnikNumberSpec)) fnExactVapnikNumberCard

/-- THE TIED CARD OF 'laws.FnExactShatteredSets'. -/
def fnExactShatteredSetsCard : Claim7 := { stood := { row := fnExactShatteredSetsRow, standIns := [], harness := (true, "bdb018352aea4c3c0f47c2943781a7bd5db1616db5c245c879a1477a68d71967"), looks := false }, kinds := [], alts := [], laidByText := true, laidKinds := [.data, .data], laidTests := true, laidLooks := .later }
def FnExactShatteredSetsCardSaid : Prop := Claim7.holds Tryd.pinned (.plain (OpenSpec.ofChange fnExactShatteredSetsSpec)) fnExactShatteredSetsCard

/-- THE SECOND FORM's CARD OF 'laws.FnExactVapnikNumber'. -/
def fnExactVapnikNumberUptoCard : Claim7 := { stood := { row := fnExactVapnikNumberUptoRow, standIns := [], harness := (true, "bdb018352aea4c3c0f47c2943781a7bd5db1616db5c245c879a1477a68d71967"), looks := false }, kinds := [], alts := [], laidByText := true, laidKinds := [.data, .data], laidTests := true, laidLooks := .later }
def FnExactVapnikNumberUptoCardSaid : Prop := Claim7.holds Tryd.pinned (.plain (OpenSpec.upto fnExactVapnikNumberSpec)) fnExactVapnikNumberUptoCard

/-- THE SECOND FORM's CARD OF 'laws.FnExactShatteredSets'. -/
def fnExactShatteredSetsUptoCard : Claim7 := { stood := { row := fnExactShatteredSetsUptoRow, standIns := [], harness := (true, "bdb018352aea4c3c0f47c2943781a7bd5db1616db5c245c879a1477a68d71967"), looks := false }, kinds := [], alts := [], laidByText := true, laidKinds := [.data, .data], laidTests := true, laidLooks := .later }
def FnExactShatteredSetsUptoCardSaid : Prop := Claim7.holds Tryd.pinned (.plain (OpenSpec.upto fnExactShatteredSetsSpec)) fnExactShatteredSetsUptoCard
end Rows
end Go.Proofs.YtfkfahdikmfpeaaDoor
