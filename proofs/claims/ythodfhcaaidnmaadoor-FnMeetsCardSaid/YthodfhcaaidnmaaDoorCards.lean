/-
  DERIVED. GIVEN WITH THE SEED: THE CARDS: each row of YthodfhcaaidnmaaDoorRows.lean that lists a variable, with what it lists TIED to the program's text (the seventh form; the later family's looks); each row that meets fmt, with fmt's text TOLD by the authors' own Lean function (tested against real Go, not proved from fmt's source: count such statements apart). THE CARD IS WHAT COUNTS. Prove the row's statement (the work); the ties are given (YthodfhcaaidnmaaDoorTie.lean); close each card by the builder's one call (the guide's Derived/Test/ToyasCard.lean, 'card_holds'). Laid BY PROGRAM, IN A SANDBOX (cutbox-door.mjs). By AI agents, Wed Nov 11 2026. No macro, syntax, notation, axiom, sorry.
-/
import Derived.Test.YthodfhcaaidnmaaDoorRows
import GoSem.ClaimSeven
namespace Go.Proofs.YthodfhcaaidnmaaDoor
namespace Rows

/-- THE TIED CARD OF 'laws.FnMeets'. -/
def fnMeetsCard : Claim7 := { stood := { row := fnMeetsRow, standIns := [], harness := (true, "f6d75e5238c5ec378ea0f826875a77f58da6d881cc9134e464422fcd8c1bbb2f"), looks := false }, kinds := [], alts := [], laidByText := true, laidKinds := [.data, .data], laidTests := true, laidLooks := .later }
def FnMeetsCardSaid : Prop := Claim7.holds Tryd.pinned (.plain (OpenSpec.ofChange fnMeetsSpec)) fnMeetsCard

/-- THE TIED CARD OF 'laws.FnExactLoadsBound'. -/
def fnExactLoadsBoundCard : Claim7 := { stood := { row := fnExactLoadsBoundRow, standIns := [], harness := (true, "f6d75e5238c5ec378ea0f826875a77f58da6d881cc9134e464422fcd8c1bbb2f"), looks := false }, kinds := [], alts := [], laidByText := true, laidKinds := [.data, .data], laidTests := true, laidLooks := .later }
def FnExactLoadsBoundCardSaid : Prop := Claim7.holds Tryd.pinned (.plain (OpenSpec.ofChange fnExactLoadsBoundSpec)) fnExactLoadsBoundCard

/-- THE TIED CARD OF 'laws.FnExactApartSet'. -/
def fnExactApartSetCard : Claim7 := { stood := { row := fnExactApartSetRow, standIns := [], harness := (true, "f6d75e5238c5ec378ea0f826875a77f58da6d881cc9134e464422fcd8c1bbb2f"), looks := false }, kinds := [], alts := [], laidByText := true, laidKinds := [.data, .data], laidTests := true, laidLooks := .later }
def FnExactApartSetCardSaid : Prop := Claim7.holds Tryd.pinned (.plain (OpenSpec.ofChange fnExactApartSetSpec)) fnExactApartSetCard

/-- THE TIED CARD OF 'laws.FnExactGarmentsText'. -/
def fnExactGarmentsTextCard : Claim7 := { stood := { row := fnExactGarmentsTextRow, standIns := [], harness := (true, "f6d75e5238c5ec378ea0f826875a77f58da6d881cc9134e464422fcd8c1bbb2f"), looks := false }, kinds := [], alts := [], laidByText := true, laidKinds := [.data, .data, .data], laidTests := true, laidLooks := .later }
def FnExactGarmentsTextCardSaid : Prop := Claim7.holds Tryd.pinned (.plain (OpenSpec.ofChange fnExactGarmentsTextSpec)) fnExactGarmentsTextCard

/-- THE TIED CARD OF 'laws.FnExactHeaviestLoad'. -/
def fnExactHeaviestLoadCard : Claim7 := { stood := { row := fnExactHeaviestLoadRow, standIns := [], harness := (true, "f6d75e5238c5ec378ea0f826875a77f58da6d881cc9134e464422fcd8c1bbb2f"), looks := false }, kinds := [], alts := [], laidByText := true, laidKinds := [.data, .data], laidTests := true, laidLooks := .later }
def FnExactHeaviestLoadCardSaid : Prop := Claim7.holds Tryd.pinned (.plain (OpenSpec.ofChange fnExactHeaviestLoadSpec)) fnExactHeaviestLoadCard

/-- THE SECOND FORM's CARD OF 'laws.FnMeets'. -/
def fnMeetsUptoCard : Claim7 := { stood := { row := fnMeetsUptoRow, standIns := [], harness := (true, "f6d75e5238c5ec378ea0f826875a77f58da6d881cc9134e464422fcd8c1bbb2f"), looks := false }, kinds := [], alts := [], laidByText := true, laidKinds := [.data, .data], laidTests := true, laidLooks := .later }
def FnMeetsUptoCardSaid : Prop := Claim7.holds Tryd.pinned (.plain (OpenSpec.upto fnMeetsSpec)) fnMeetsUptoCard

/-- THE SECOND FORM's CARD OF 'laws.FnExactLoadsBound'. -/
def fnExactLoadsBoundUptoCard : Claim7 := { stood := { row := fnExactLoadsBoundUptoRow, standIns := [], harness := (true, "f6d75e5238c5ec378ea0f826875a77f58da6d881cc9134e464422fcd8c1bbb2f"), looks := false }, kinds := [], alts := [], laidByText := true, laidKinds := [.data, .data], laidTests := true, laidLooks := .later }
def FnExactLoadsBoundUptoCardSaid : Prop := Claim7.holds Tryd.pinned (.plain (OpenSpec.upto fnExactLoadsBoundSpec)) fnExactLoadsBoundUptoCard

/-- THE SECOND FORM's CARD OF 'laws.FnExactApartSet'. -/
def fnExactApartSetUptoCard : Claim7 := { stood := { row := fnExactApartSetUptoRow, standIns := [], harness := (true, "f6d75e5238c5ec378ea0f826875a77f58da6d881cc9134e464422fcd8c1bbb2f"), looks := false }, kinds := [], alts := [], laidByText := true, laidKinds := [.data, .data], laidTests := true, laidLooks := .later }
def FnExactApartSetUptoCardSaid : Prop := Claim7.holds Tryd.pinned (.plain (OpenSpec.upto fnExactApartSetSpec)) fnExactApartSetUptoCard

/-- THE SECOND FORM's CARD OF 'laws.FnExactGarmentsText'. -/
def fnExactGarmentsTextUptoCard : Claim7 := { stood := { row := fnExactGarmentsTextUptoRow, standIns := [], harness := (true, "f6d75e5238c5ec378ea0f826875a77f58da6d881cc9134e464422fcd8c1bbb2f"), looks := false }, kinds := [], alts := [], laidByText := true, laidKinds := [.data, .data, .data], laidTests := true, laidLooks := .later }
def FnExactGarmentsTextUptoCardSaid : Prop := Claim7.holds Tryd.pinned (.plain (OpenSpec.upto fnExactGarmentsTextSpec)) fnExactGarmentsTextUptoCard

/-- THE SECOND FORM's CARD OF 'laws.FnExactHeaviestLoad'. -/
def fnExactHeaviestLoadUptoCard : Claim7 := { stood := { row := fnExactHeaviestLoadUptoRow, standIns := [], harness := (true, "f6d75e5238c5ec378ea0f826875a77f58da6d881cc9134e464422fcd8c1bbb2f"), looks := false }, kinds := [], alts := [], laidByText := true, laidKinds := [.data, .data], laidTests := true, laidLooks := .later }
def FnExactHeaviestLoadUptoCardSaid : Prop := Claim7.holds Tryd.pinned (.plain (OpenSpec.upto fnExactHeaviestLoadSpec)) fnExactHeaviestLoadUptoCard
end Rows
end Go.Proofs.YthodfhcaaidnmaaDoor
