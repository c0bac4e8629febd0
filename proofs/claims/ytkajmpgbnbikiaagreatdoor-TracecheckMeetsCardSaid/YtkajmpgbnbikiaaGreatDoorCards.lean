/-
  DERIVED. GIVEN WITH THE SEED: THE CARDS: each row of YtkajmpgbnbikiaaGreatDoorRows.lean that lists a variable, with what it lists TIED to the program's text (the seventh form; the later family's looks); each row that meets fmt, with fmt's text TOLD by the authors' own Lean function (tested against real Go, not proved from fmt's source: count such statements apart). THE CARD IS WHAT COUNTS. Prove the row's statement (the work); the ties are given (YtkajmpgbnbikiaaGreatDoorTie.lean); close each card by the builder's one call (the guide's Derived/Test/ToyasCard.lean, 'card_holds'). Laid BY PROGRAM, IN A SANDBOX (cutbox-door.mjs). By AI agents, Wed Nov 11 2026. No macro, syntax, notation, axiom, sorry.
-/
import Derived.Test.YtkajmpgbnbikiaaGreatDoorRows
import GoSem.ClaimSeven
namespace Go.Proofs.YtkajmpgbnbikiaaGreatDoor
namespace Rows

/-- THE TIED CARD OF 'geoproverlaw41.TracecheckRights'. -/
def tracecheckRightsCard : Claim7 := { stood := { row := tracecheckRightsRow, standIns := [], harness := (true, "a0aada195ddccd03b8a1908b08d949cebd243c8425d48db0cd310ea2ca3c8823"), looks := true }, kinds := [], alts := [], laidByText := true, laidKinds := [.data, .data, .data], laidTests := true, laidLooks := .later }
def TracecheckRightsCardSaid : Prop := Claim7.holds Tryz.pinned (.plain (OpenSpec.ofChange tracecheckRightsSpec)) tracecheckRightsCard

/-- THE TIED CARD OF 'geoproverlaw41.TracecheckChecks'. -/
def tracecheckChecksCard : Claim7 := { stood := { row := tracecheckChecksRow, standIns := [], harness := (true, "a0aada195ddccd03b8a1908b08d949cebd243c8425d48db0cd310ea2ca3c8823"), looks := true }, kinds := [], alts := [], laidByText := true, laidKinds := [.data, .data, .data], laidTests := true, laidLooks := .later }
def TracecheckChecksCardSaid : Prop := Claim7.holds Tryz.pinned (.plain (OpenSpec.ofChange tracecheckChecksSpec)) tracecheckChecksCard

/-- THE TIED CARD OF 'geoproverlaw41.TracecheckMeets'. -/
def tracecheckMeetsCard : Claim7 := { stood := { row := tracecheckMeetsRow, standIns := [], harness := (true, "a0aada195ddccd03b8a1908b08d949cebd243c8425d48db0cd310ea2ca3c8823"), looks := true }, kinds := [], alts := [], laidByText := true, laidKinds := [.data, .data, .data], laidTests := true, laidLooks := .later }
def TracecheckMeetsCardSaid : Prop := Claim7.holds Tryz.pinned (.plain (OpenSpec.ofChange tracecheckMeetsSpec)) tracecheckMeetsCard

/-- THE SECOND FORM's CARD OF 'geoproverlaw41.TracecheckRights'. -/
def tracecheckRightsUptoCard : Claim7 := { stood := { row := tracecheckRightsUptoRow, standIns := [], harness := (true, "a0aada195ddccd03b8a1908b08d949cebd243c8425d48db0cd310ea2ca3c8823"), looks := true }, kinds := [], alts := [], laidByText := true, laidKinds := [.data, .data, .data], laidTests := true, laidLooks := .later }
def TracecheckRightsUptoCardSaid : Prop := Claim7.holds Tryz.pinned (.plain (OpenSpec.upto tracecheckRightsSpec)) tracecheckRightsUptoCard

/-- THE SECOND FORM's CARD OF 'geoproverlaw41.TracecheckChecks'. -/
def tracecheckChecksUptoCard : Claim7 := { stood := { row := tracecheckChecksUptoRow, standIns := [], harness := (true, "a0aada195ddccd03b8a1908b08d949cebd243c8425d48db0cd310ea2ca3c8823"), looks := true }, kinds := [], alts := [], laidByText := true, laidKinds := [.data, .data, .data], laidTests := true, laidLooks := .later }
def TracecheckChecksUptoCardSaid : Prop := Claim7.holds Tryz.pinned (.plain (OpenSpec.upto tracecheckChecksSpec)) tracecheckChecksUptoCard

/-- THE SECOND FORM's CARD OF 'geoproverlaw41.TracecheckMeets'. -/
def tracecheckMeetsUptoCard : Claim7 := { stood := { row := tracecheckMeetsUptoRow, standIns := [], harness := (true, "a0aada195ddccd03b8a1908b08d949cebd243c8425d48db0cd310ea2ca3c8823"), looks := true }, kinds := [], alts := [], laidByText := true, laidKinds := [.data, .data, .data], laidTests := true, laidLooks := .later }
def TracecheckMeetsUptoCardSaid : Prop := Claim7.holds Tryz.pinned (.plain (OpenSpec.upto tracecheckMeetsSpec)) tracecheckMeetsUptoCard
end Rows
end Go.Proofs.YtkajmpgbnbikiaaGreatDoor
