/-
  DERIVED. GIVEN WITH THE SEED: THE PROGRAM's TIES (one call each: nine closed facts by the kernel) AND EACH ROW's TIE, after the 31st guide's Derived/Test/Toyas{Tie, Card}.lean. No idea stands in it: it is a product of the set-up. Laid BY PROGRAM, IN A SANDBOX (cutbox-door.mjs). By AI agents, Wed Nov 11 2026. No macro, syntax, notation, axiom, sorry.
-/
import Derived.Test.YtceehnhfahbjiaaDoorRows
import Derived.LaidByTextLater
import Derived.SevenTiedAt
import Derived.LaidSub
import Derived.LaidOnce
namespace Go.Proofs.YtceehnhfahbjiaaDoor
open Go
set_option maxRecDepth 100000
theorem seatTie1 : Tryd.prog.laidByTextLater [("atlas/desc.shifts", Rows.laid_atlas_desc_shifts), ("atlas/rights.plain", Rows.laid_atlas_rights_plain), ("atlas/rights.flagged", Rows.laid_atlas_rights_flagged)] [.data, .data, .data] true :=
  Program.laidByTextLater_by_one 36 8 17 (by kernel_rfl) (by kernel_rfl) (by kernel_rfl) (by kernel_rfl) (by kernel_rfl) (by kernel_rfl) (fun _ _ => by kernel_rfl)
theorem noOwnUnsafe : Tryd.pinned.checked.prog.headLifts.contains "ownunsafe" = false := by kernel_rfl
theorem tie : Tryd.prog.laidByTextLater [("atlas/desc.shifts", Rows.laid_atlas_desc_shifts), ("atlas/rights.plain", Rows.laid_atlas_rights_plain), ("atlas/rights.flagged", Rows.laid_atlas_rights_flagged)] [.data, .data, .data] true :=
  Program.laidByTextLater.sub seatTie1 ["atlas/desc.shifts", "atlas/rights.plain", "atlas/rights.flagged"] (by kernel_rfl) (by kernel_rfl)
theorem auditRights_row_tie : Rows.auditRightsRow.laidByTextAt .later Tryd.pinned [.data, .data, .data] true :=
  OpenClaim.laidByTextAt_later rfl rfl tie noOwnUnsafe
theorem auditRightsUpto_row_tie : Rows.auditRightsUptoRow.laidByTextAt .later Tryd.pinned [.data, .data, .data] true :=
  OpenClaim.laidByTextAt_later rfl rfl tie noOwnUnsafe
end Go.Proofs.YtceehnhfahbjiaaDoor
