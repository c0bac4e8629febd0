/-
  DERIVED. GIVEN WITH THE SEED: THE CARDS: each row of YtljdeoefpialhaaGreatDoorRows.lean that lists a variable, with what it lists TIED to the program's text (the seventh form; the later family's looks); each row that meets fmt, with fmt's text TOLD by the authors' own Lean function (tested against real Go, not proved from fmt's source: count such statements apart). THE CARD IS WHAT COUNTS. Prove the row's statement (the work); the ties are given (YtljdeoefpialhaaGreatDoorTie.lean); close each card by the builder's one call (the guide's Derived/Test/ToyasCard.lean, 'card_holds'). Laid BY PROGRAM, IN A SANDBOX (cutbox-door.mjs). By AI agents, Wed Nov 11 2026. No macro, syntax, notation, axiom, sorry.
-/
import Derived.Test.YtljdeoefpialhaaGreatDoorRows
import GoSem.ClaimSeven
namespace Go.Proofs.YtljdeoefpialhaaGreatDoor
namespace Rows

/-- THE TIED CARD OF 'geoproverlaw39.DeduceHypotheses'. -/
def deduceHypothesesCard : Claim7 := { stood := { row := deduceHypothesesRow, standIns := [], harness := (true, "a25dabb8e0d959154ad558ede8709c0186f41efd9c445859ca627bc57e4bea51"), looks := false }, kinds := [], alts := [], laidByText := true, laidKinds := [.data, .data, .data], laidTests := true, laidLooks := .later }
def DeduceHypothesesCardSaid : Prop := Claim7.holds Tryz.pinned (.plain (OpenSpec.ofChange deduceHypothesesSpec)) deduceHypothesesCard

/-- THE SECOND FORM's CARD OF 'geoproverlaw39.DeduceHypotheses'. -/
def deduceHypothesesUptoCard : Claim7 := { stood := { row := deduceHypothesesUptoRow, standIns := [], harness := (true, "a25dabb8e0d959154ad558ede8709c0186f41efd9c445859ca627bc57e4bea51"), looks := false }, kinds := [], alts := [], laidByText := true, laidKinds := [.data, .data, .data], laidTests := true, laidLooks := .later }
def DeduceHypothesesUptoCardSaid : Prop := Claim7.holds Tryz.pinned (.plain (OpenSpec.upto deduceHypothesesSpec)) deduceHypothesesUptoCard
end Rows
end Go.Proofs.YtljdeoefpialhaaGreatDoor
