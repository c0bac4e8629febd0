/-
  DERIVED. GIVEN WITH THE SEED: THE CARDS: each row of YtplacedebenpaaaGreatDoorRows.lean that lists a variable, with what it lists TIED to the program's text (the seventh form; the later family's looks); each row that meets fmt, with fmt's text TOLD by the authors' own Lean function (tested against real Go, not proved from fmt's source: count such statements apart). THE CARD IS WHAT COUNTS. Prove the row's statement (the work); the ties are given (YtplacedebenpaaaGreatDoorTie.lean); close each card by the builder's one call (the guide's Derived/Test/ToyasCard.lean, 'card_holds'). Laid BY PROGRAM, IN A SANDBOX (cutbox-door.mjs). By AI agents, Wed Nov 11 2026. No macro, syntax, notation, axiom, sorry.
-/
import Derived.Test.YtplacedebenpaaaGreatDoorRows
import GoSem.ClaimSeven
namespace Go.Proofs.YtplacedebenpaaaGreatDoor
namespace Rows

/-- THE TIED CARD OF 'geoproverlaw40.TraceExtracts'. -/
def traceExtractsCard : Claim7 := { stood := { row := traceExtractsRow, standIns := [], harness := (true, "600c1864018a70ffd782925b6dcd6c371efe0c222f965e6e87383bce4759d7ab"), looks := true }, kinds := [], alts := [], laidByText := true, laidKinds := [.data, .data, .data, .data, .sentinel, .sentinel, .pinned], laidTests := true, laidLooks := .later }
def TraceExtractsCardSaid : Prop := Claim7.holds Tryz.pinned (.plain (OpenSpec.ofChange traceExtractsSpec)) traceExtractsCard

/-- THE SECOND FORM's CARD OF 'geoproverlaw40.TraceExtracts'. -/
def traceExtractsUptoCard : Claim7 := { stood := { row := traceExtractsUptoRow, standIns := [], harness := (true, "600c1864018a70ffd782925b6dcd6c371efe0c222f965e6e87383bce4759d7ab"), looks := true }, kinds := [], alts := [], laidByText := true, laidKinds := [.data, .data, .data, .data, .sentinel, .sentinel, .pinned], laidTests := true, laidLooks := .later }
def TraceExtractsUptoCardSaid : Prop := Claim7.holds Tryz.pinned (.plain (OpenSpec.upto traceExtractsSpec)) traceExtractsUptoCard
end Rows
end Go.Proofs.YtplacedebenpaaaGreatDoor
