/-
  DERIVED. GIVEN WITH THE SEED: THE CARDS: each row of YtpklcnmcllbbjaaGreatDoorRows.lean that lists a variable, with what it lists TIED to the program's text (the seventh form; the later family's looks); each row that meets fmt, with fmt's text TOLD by the authors' own Lean function (tested against real Go, not proved from fmt's source: count such statements apart). THE CARD IS WHAT COUNTS. Prove the row's statement (the work); the ties are given (YtpklcnmcllbbjaaGreatDoorTie.lean); close each card by the builder's one call (the guide's Derived/Test/ToyasCard.lean, 'card_holds'). Laid BY PROGRAM, IN A SANDBOX (cutbox-door.mjs). By AI agents, Wed Nov 11 2026. No macro, syntax, notation, axiom, sorry.
-/
import Derived.Test.YtpklcnmcllbbjaaGreatDoorRows
import GoSem.ClaimSeven
namespace Go.Proofs.YtpklcnmcllbbjaaGreatDoor
namespace Rows

/-- THE TIED CARD OF 'geoproverlaw40.TraceTexts'. -/
def traceTextsCard : Claim7 := { stood := { row := traceTextsRow, standIns := [], harness := (true, "8160d6571587c8d215d6bc6815a29de0951deb2090351d18522172ef61498113"), looks := true }, kinds := [], alts := [], laidByText := true, laidKinds := [.data, .data, .data, .data, .sentinel, .sentinel, .pinned], laidTests := true, laidLooks := .later }
def TraceTextsCardSaid : Prop := Claim7.holds Tryz.pinned (.plain (OpenSpec.ofChange traceTextsSpec)) traceTextsCard

/-- THE SECOND FORM's CARD OF 'geoproverlaw40.TraceTexts'. -/
def traceTextsUptoCard : Claim7 := { stood := { row := traceTextsUptoRow, standIns := [], harness := (true, "8160d6571587c8d215d6bc6815a29de0951deb2090351d18522172ef61498113"), looks := true }, kinds := [], alts := [], laidByText := true, laidKinds := [.data, .data, .data, .data, .sentinel, .sentinel, .pinned], laidTests := true, laidLooks := .later }
def TraceTextsUptoCardSaid : Prop := Claim7.holds Tryz.pinned (.plain (OpenSpec.upto traceTextsSpec)) traceTextsUptoCard
end Rows
end Go.Proofs.YtpklcnmcllbbjaaGreatDoor
