/-
  DERIVED. GIVEN WITH THE SEED: THE PROGRAM's TIES (one call each: nine closed facts by the kernel) AND EACH ROW's TIE, after the 31st guide's Derived/Test/Toyas{Tie, Card}.lean. No idea stands in it: it is a product of the set-up. Laid BY PROGRAM, IN A SANDBOX (cutbox-door.mjs). By AI agents, Wed Nov 11 2026. No macro, syntax, notation, axiom, sorry.
-/
import Derived.Test.YtpdijogpbnaplaaDoorRows
import Derived.LaidByTextLater
import Derived.SevenTiedAt
import Derived.LaidSub
import Derived.LaidOnce
namespace Go.Proofs.YtpdijogpbnaplaaDoor
open Go
set_option maxRecDepth 100000
theorem seatTie1 : Tryd.prog.laidByTextLater [("atlas/desc.shifts", Rows.laid_atlas_desc_shifts), ("atlas/desc.kinds", Rows.laid_atlas_desc_kinds), ("atlas/rights.plain", Rows.laid_atlas_rights_plain), ("atlas/rights.flagged", Rows.laid_atlas_rights_flagged)] [.data, .data, .data, .data] true :=
  Program.laidByTextLater_by_one 41 8 17 (by kernel_rfl) (by kernel_rfl) (by kernel_rfl) (by kernel_rfl) (by kernel_rfl) (by kernel_rfl) (fun _ _ => by kernel_rfl)
theorem noOwnUnsafe : Tryd.pinned.checked.prog.headLifts.contains "ownunsafe" = false := by kernel_rfl
theorem tie : Tryd.prog.laidByTextLater [("atlas/desc.shifts", Rows.laid_atlas_desc_shifts), ("atlas/desc.kinds", Rows.laid_atlas_desc_kinds)] [.data, .data] true :=
  Program.laidByTextLater.sub seatTie1 ["atlas/desc.shifts", "atlas/desc.kinds"] (by kernel_rfl) (by kernel_rfl)
theorem walkFinds_row_tie : Rows.walkFindsRow.laidByTextAt .later Tryd.pinned [.data, .data] true :=
  OpenClaim.laidByTextAt_later rfl rfl tie noOwnUnsafe
theorem walkReads_row_tie : Rows.walkReadsRow.laidByTextAt .later Tryd.pinned [.data, .data] true :=
  OpenClaim.laidByTextAt_later rfl rfl tie noOwnUnsafe
theorem walkEdit_row_tie : Rows.walkEditRow.laidByTextAt .later Tryd.pinned [.data, .data] true :=
  OpenClaim.laidByTextAt_later rfl rfl tie noOwnUnsafe
theorem walkSame_row_tie : Rows.walkSameRow.laidByTextAt .later Tryd.pinned [.data, .data] true :=
  OpenClaim.laidByTextAt_later rfl rfl tie noOwnUnsafe
theorem walkBlocks_row_tie : Rows.walkBlocksRow.laidByTextAt .later Tryd.pinned [.data, .data] true :=
  OpenClaim.laidByTextAt_later rfl rfl tie noOwnUnsafe
theorem walkListed_row_tie : Rows.walkListedRow.laidByTextAt .later Tryd.pinned [.data, .data] true :=
  OpenClaim.laidByTextAt_later rfl rfl tie noOwnUnsafe
theorem tie2 : Tryd.prog.laidByTextLater [("atlas/desc.shifts", Rows.laid_atlas_desc_shifts), ("atlas/desc.kinds", Rows.laid_atlas_desc_kinds), ("atlas/rights.plain", Rows.laid_atlas_rights_plain), ("atlas/rights.flagged", Rows.laid_atlas_rights_flagged)] [.data, .data, .data, .data] true :=
  Program.laidByTextLater.sub seatTie1 ["atlas/desc.shifts", "atlas/desc.kinds", "atlas/rights.plain", "atlas/rights.flagged"] (by kernel_rfl) (by kernel_rfl)
theorem walkGo_row_tie : Rows.walkGoRow.laidByTextAt .later Tryd.pinned [.data, .data, .data, .data] true :=
  OpenClaim.laidByTextAt_later rfl rfl tie2 noOwnUnsafe
theorem walkPages_row_tie : Rows.walkPagesRow.laidByTextAt .later Tryd.pinned [.data, .data, .data, .data] true :=
  OpenClaim.laidByTextAt_later rfl rfl tie2 noOwnUnsafe
theorem walkNone_row_tie : Rows.walkNoneRow.laidByTextAt .later Tryd.pinned [.data, .data, .data, .data] true :=
  OpenClaim.laidByTextAt_later rfl rfl tie2 noOwnUnsafe
theorem walkFindsUpto_row_tie : Rows.walkFindsUptoRow.laidByTextAt .later Tryd.pinned [.data, .data] true :=
  OpenClaim.laidByTextAt_later rfl rfl tie noOwnUnsafe
theorem walkReadsUpto_row_tie : Rows.walkReadsUptoRow.laidByTextAt .later Tryd.pinned [.data, .data] true :=
  OpenClaim.laidByTextAt_later rfl rfl tie noOwnUnsafe
theorem walkEditUpto_row_tie : Rows.walkEditUptoRow.laidByTextAt .later Tryd.pinned [.data, .data] true :=
  OpenClaim.laidByTextAt_later rfl rfl tie noOwnUnsafe
theorem walkSameUpto_row_tie : Rows.walkSameUptoRow.laidByTextAt .later Tryd.pinned [.data, .data] true :=
  OpenClaim.laidByTextAt_later rfl rfl tie noOwnUnsafe
theorem walkGoUpto_row_tie : Rows.walkGoUptoRow.laidByTextAt .later Tryd.pinned [.data, .data, .data, .data] true :=
  OpenClaim.laidByTextAt_later rfl rfl tie2 noOwnUnsafe
theorem walkPagesUpto_row_tie : Rows.walkPagesUptoRow.laidByTextAt .later Tryd.pinned [.data, .data, .data, .data] true :=
  OpenClaim.laidByTextAt_later rfl rfl tie2 noOwnUnsafe
theorem walkBlocksUpto_row_tie : Rows.walkBlocksUptoRow.laidByTextAt .later Tryd.pinned [.data, .data] true :=
  OpenClaim.laidByTextAt_later rfl rfl tie noOwnUnsafe
theorem walkListedUpto_row_tie : Rows.walkListedUptoRow.laidByTextAt .later Tryd.pinned [.data, .data] true :=
  OpenClaim.laidByTextAt_later rfl rfl tie noOwnUnsafe
theorem walkNoneUpto_row_tie : Rows.walkNoneUptoRow.laidByTextAt .later Tryd.pinned [.data, .data, .data, .data] true :=
  OpenClaim.laidByTextAt_later rfl rfl tie2 noOwnUnsafe
end Go.Proofs.YtpdijogpbnaplaaDoor
