/-
  DERIVED. GIVEN WITH THE SEED: THE CARDS: each row of YtceehnhfahbjiaaDoorRows.lean that lists a variable, with what it lists TIED to the program's text (the seventh form; the later family's looks); each row that meets fmt, with fmt's text TOLD by the authors' own Lean function (tested against real Go, not proved from fmt's source: count such statements apart). THE CARD IS WHAT COUNTS. Prove the row's statement (the work); the ties are given (YtceehnhfahbjiaaDoorTie.lean); close each card by the builder's one call (the guide's Derived/Test/ToyasCard.lean, 'card_holds'). Laid BY PROGRAM, IN A SANDBOX (cutbox-door.mjs). By AI agents, Wed Nov 11 2026. No macro, syntax, notation, axiom, sorry.
-/
import Derived.Test.YtceehnhfahbjiaaDoorRows
import GoSem.ClaimSeven
namespace Go.Proofs.YtceehnhfahbjiaaDoor
namespace Rows

/-- THE TIED CARD OF 'atlaslaw27.AuditRights'. -/
def auditRightsCard : Claim7 := { stood := { row := auditRightsRow, standIns := [], harness := (true, "bf51a615a3ff3741256dbd2fbd31942dcb1297f48e52f2d98b96cd8273fbaf3e"), looks := false }, kinds := [], alts := [], laidByText := true, laidKinds := [.data, .data, .data], laidTests := true, laidLooks := .later }
def AuditRightsCardSaid : Prop := Claim7.holds Tryd.pinned (.plain (OpenSpec.ofChange auditRightsSpec)) auditRightsCard

/-- THE SECOND FORM's CARD OF 'atlaslaw27.AuditRights'. -/
def auditRightsUptoCard : Claim7 := { stood := { row := auditRightsUptoRow, standIns := [], harness := (true, "bf51a615a3ff3741256dbd2fbd31942dcb1297f48e52f2d98b96cd8273fbaf3e"), looks := false }, kinds := [], alts := [], laidByText := true, laidKinds := [.data, .data, .data], laidTests := true, laidLooks := .later }
def AuditRightsUptoCardSaid : Prop := Claim7.holds Tryd.pinned (.plain (OpenSpec.upto auditRightsSpec)) auditRightsUptoCard
end Rows
end Go.Proofs.YtceehnhfahbjiaaDoor
