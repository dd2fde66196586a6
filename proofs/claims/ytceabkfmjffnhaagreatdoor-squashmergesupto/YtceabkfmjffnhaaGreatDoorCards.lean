/-
  DERIVED. GIVEN WITH THE SEED: THE CARDS: each row of YtceabkfmjffnhaaGreatDoorRows.lean that lists a variable, with what it lists TIED to the program's text (the seventh form; the later family's looks); each row that meets fmt, with fmt's text TOLD by the authors' own Lean function (tested against real Go, not proved from fmt's source: count such statements apart). THE CARD IS WHAT COUNTS. Prove the row's statement (the work); the ties are given (YtceabkfmjffnhaaGreatDoorTie.lean); close each card by the builder's one call (the guide's Derived/Test/ToyasCard.lean, 'card_holds'). Laid BY PROGRAM, IN A SANDBOX (cutbox-door.mjs). By AI agents, Wed Nov 11 2026. No macro, syntax, notation, axiom, sorry.
-/
import Derived.Test.YtceabkfmjffnhaaGreatDoorRows
import GoSem.ClaimSeven
namespace Go.Proofs.YtceabkfmjffnhaaGreatDoor
namespace Rows

/-- THE TIED CARD OF 'portolanlaw25.SquashMerges'. -/
def squashMergesCard : Claim7 := { stood := { row := squashMergesRow, standIns := [], harness := (true, "d31a999705d2bed4557c44e7638eab7487d852d3d0de41af1664223832a77887"), looks := false }, kinds := [], alts := [], laidByText := true, laidKinds := [.data, .funcs, .mapped, .funcs, .pinned], laidTests := true, laidLooks := .later }
def SquashMergesCardSaid : Prop := Claim7.holds Tryz.pinned (.plain (OpenSpec.ofChange squashMergesSpec)) squashMergesCard

/-- THE SECOND FORM's CARD OF 'portolanlaw25.SquashMerges'. -/
def squashMergesUptoCard : Claim7 := { stood := { row := squashMergesUptoRow, standIns := [], harness := (true, "d31a999705d2bed4557c44e7638eab7487d852d3d0de41af1664223832a77887"), looks := false }, kinds := [], alts := [], laidByText := true, laidKinds := [.data, .funcs, .mapped, .funcs, .pinned], laidTests := true, laidLooks := .later }
def SquashMergesUptoCardSaid : Prop := Claim7.holds Tryz.pinned (.plain (OpenSpec.upto squashMergesSpec)) squashMergesUptoCard
end Rows
end Go.Proofs.YtceabkfmjffnhaaGreatDoor
