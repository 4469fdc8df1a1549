/-
  DERIVED. GIVEN WITH THE SEED: THE CARDS: each row of YtlkpgpnieodifaaDoorRows.lean that lists a variable, with what it lists TIED to the program's text (the seventh form; the later family's looks); each row that meets fmt, with fmt's text TOLD by the authors' own Lean function (tested against real Go, not proved from fmt's source: count such statements apart). THE CARD IS WHAT COUNTS. Prove the row's statement (the work); the ties are given (YtlkpgpnieodifaaDoorTie.lean); close each card by the builder's one call (the guide's Derived/Test/ToyasCard.lean, 'card_holds'). Laid BY PROGRAM, IN A SANDBOX (cutbox-door.mjs). By AI agents, Wed Nov 11 2026. No macro, syntax, notation, axiom, sorry.
-/
import Derived.Test.YtlkpgpnieodifaaDoorRows
import GoSem.ClaimSeven
namespace Go.Proofs.YtlkpgpnieodifaaDoor
namespace Rows

/-- THE TIED CARD OF 'laws.FnExactClothsText'. -/
def fnExactClothsTextCard : Claim7 := { stood := { row := fnExactClothsTextRow, standIns := [], harness := (true, "639c5491f4d632efeb840dfdba20bdac21d29431a31de43da62e28a3c34a3d73"), looks := false }, kinds := [], alts := [], laidByText := true, laidKinds := [.data, .data, .data], laidTests := true, laidLooks := .later }
def FnExactClothsTextCardSaid : Prop := Claim7.holds Tryd.pinned (.plain (OpenSpec.ofChange fnExactClothsTextSpec)) fnExactClothsTextCard

/-- THE SECOND FORM's CARD OF 'laws.FnExactClothsText'. -/
def fnExactClothsTextUptoCard : Claim7 := { stood := { row := fnExactClothsTextUptoRow, standIns := [], harness := (true, "639c5491f4d632efeb840dfdba20bdac21d29431a31de43da62e28a3c34a3d73"), looks := false }, kinds := [], alts := [], laidByText := true, laidKinds := [.data, .data, .data], laidTests := true, laidLooks := .later }
def FnExactClothsTextUptoCardSaid : Prop := Claim7.holds Tryd.pinned (.plain (OpenSpec.upto fnExactClothsTextSpec)) fnExactClothsTextUptoCard
end Rows
end Go.Proofs.YtlkpgpnieodifaaDoor
