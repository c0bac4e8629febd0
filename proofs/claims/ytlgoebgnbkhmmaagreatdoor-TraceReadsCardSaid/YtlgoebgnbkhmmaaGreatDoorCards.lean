/-
  DERIVED. GIVEN WITH THE SEED: THE CARDS: each row of YtlgoebgnbkhmmaaGreatDoorRows.lean that lists a variable, with what it lists TIED to the program's text (the seventh form; the later family's looks); each row that meets fmt, with fmt's text TOLD by the authors' own Lean function (tested against real Go, not proved from fmt's source: count such statements apart). THE CARD IS WHAT COUNTS. Prove the row's statement (the work); the ties are given (YtlgoebgnbkhmmaaGreatDoorTie.lean); close each card by the builder's one call (the guide's Derived/Test/ToyasCard.lean, 'card_holds'). Laid BY PROGRAM, IN A SANDBOX (cutbox-door.mjs). By AI agents, Wed Nov 11 2026. No macro, syntax, notation, axiom, sorry.
-/
import Derived.Test.YtlgoebgnbkhmmaaGreatDoorRows
import GoSem.ClaimSeven
namespace Go.Proofs.YtlgoebgnbkhmmaaGreatDoor
namespace Rows

/-- THE TIED CARD OF 'geoproverlaw40.TraceReads'. -/
def traceReadsCard : Claim7 := { stood := { row := traceReadsRow, standIns := [], harness := (true, "e4596107c9ff4a235d341aad1a7c4d4eb4f72918fa00a7e70e78c319fb3c25b9"), looks := true }, kinds := [], alts := [], laidByText := true, laidKinds := [.data, .data, .data, .data, .sentinel, .sentinel, .pinned], laidTests := true, laidLooks := .later }
def TraceReadsCardSaid : Prop := Claim7.holds Tryz.pinned (.plain (OpenSpec.ofChange traceReadsSpec)) traceReadsCard

/-- THE SECOND FORM's CARD OF 'geoproverlaw40.TraceReads'. -/
def traceReadsUptoCard : Claim7 := { stood := { row := traceReadsUptoRow, standIns := [], harness := (true, "e4596107c9ff4a235d341aad1a7c4d4eb4f72918fa00a7e70e78c319fb3c25b9"), looks := true }, kinds := [], alts := [], laidByText := true, laidKinds := [.data, .data, .data, .data, .sentinel, .sentinel, .pinned], laidTests := true, laidLooks := .later }
def TraceReadsUptoCardSaid : Prop := Claim7.holds Tryz.pinned (.plain (OpenSpec.upto traceReadsSpec)) traceReadsUptoCard
end Rows
end Go.Proofs.YtlgoebgnbkhmmaaGreatDoor
