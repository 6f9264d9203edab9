/-
  NARROWER THAN 'FOR EVERY INPUT', by the rows' own cells (each row's printed sentence says how): WalkFinds: laid · WalkReads: laid · WalkEdit: laid · WalkSame: laid · WalkGo: laid · WalkPages: laid · WalkBlocks: laid · WalkListed: laid · WalkNone: laid.
  DERIVED. THE GIVEN ROWS OF THIS SEAT. 9 by the template 'for every input the law returns true; each argument reads behind the call as it read before'; 0 by the template 'total and deterministic' (their statements: YtpdijogpbnaplaaDoorTotals.lean).
  GIVEN WITH THE SEED: the statements are not yours to turn. If you find one false, say at which input.
  Laid BY PROGRAM, IN A SANDBOX (cutbox-rows.mjs): the forced cells as the released guide's own fill.sh prints them over the translation dbf160f33ca63c9d… (all of the seat's roots in one cut). By AI agents, Wed Nov 11 2026. No macro, syntax, notation, axiom, sorry.
-/
import Derived.Test.YtpdijogpbnaplaaDoorChecked
import GoSem.Claim
import GoSem.ClaimJoined
import GoSem.ClaimMapViews
import Derived.JoinedTies
import Derived.KernelRfl
namespace Go.Proofs.YtpdijogpbnaplaaDoor
/- THE CELL 'sum', in the pinned program and in every row, IS THE sha256 OF THE DUMP (.gsa) THAT YtpdijogpbnaplaaDoorProg.lean LOADS. Nothing in Lean hashes anything: it is a label: what it is worth is what the hold of that sum in a sandbox is worth. -/
noncomputable def Tryd.pinned : Pinned := { name := "ytpdijogpbnaplaadoor", sum := "dbf160f33ca63c9da05410dfd5e1eaea0c09aa58d0911671b8d8fbfd7dbc6329", checked := Tryd.checked }
namespace Rows
def none {H : Type} : Left H := { results := [], args := [] }

/- WHAT THE LISTED PACKAGE-LEVEL VARIABLES READ AS WHEN THE CALL BEGINS. Each datum BY PROGRAM (the guide's laid-datum.mjs) off the statement by which the dump's own 'gosem.cut.vars' lays the variable. In a bare row this is a premise. The card (YtpdijogpbnaplaaDoorCards.lean) ties it to the program's text. -/
def laid_atlas_desc_shifts {H : Type} : DataW H := .agg [.lit (.int .u64 0), .lit (.int .u64 12), .lit (.int .u64 16), .lit (.int .u64 20), .lit (.int .u64 24)]
def laid_atlas_desc_kinds {H : Type} : DataW H := .agg [.lit (.int .i64 0), .lit (.int .i64 5), .lit (.int .i64 4), .lit (.int .i64 2), .lit (.int .i64 3)]
def laid_atlas_rights_plain {H : Type} : DataW H := .agg [.agg [.lit (.int .i64 0), .lit (.int .i64 0)], .agg [.lit (.int .i64 0), .lit (.int .i64 3)], .agg [.lit (.int .i64 1), .lit (.int .i64 3)], .agg [.lit (.int .i64 3), .lit (.int .i64 3)], .agg [.lit (.int .i64 0), .lit (.int .i64 0)], .agg [.lit (.int .i64 0), .lit (.int .i64 1)], .agg [.lit (.int .i64 1), .lit (.int .i64 1)], .agg [.lit (.int .i64 1), .lit (.int .i64 1)]]
def laid_atlas_rights_flagged {H : Type} : DataW H := .agg [.agg [.lit (.int .i64 0), .lit (.int .i64 3)], .agg [.lit (.int .i64 3), .lit (.int .i64 3)], .agg [.lit (.int .i64 0), .lit (.int .i64 1)], .agg [.lit (.int .i64 1), .lit (.int .i64 1)]]

/-- 'atlaslaw09.WalkFinds': WHATEVER THE INPUT: true; the input reads as it did. -/
def walkFindsSpec : ChangeSpec := { name := "walkFinds", fn := fun _ => fun
  | [d1, d2, d3, d4] => { results := [.lit (.bool true)], args := [d1, d2, d3, d4] }
  | _ => none }
def walkFindsRow : OpenClaim := { program := "ytpdijogpbnaplaadoor", sum := "dbf160f33ca63c9da05410dfd5e1eaea0c09aa58d0911671b8d8fbfd7dbc6329", func := "atlas/atlaslaw09.WalkFinds", spec := "walkFinds", unfollowed := true, recurses := true, named := ["atlas/desc.kinds", "atlas/desc.shifts"], apart := false, laid := [("atlas/desc.shifts", laid_atlas_desc_shifts), ("atlas/desc.kinds", laid_atlas_desc_kinds)] }
def WalkFindsSaid : Prop := walkFindsRow.holds Tryd.pinned (OpenSpec.ofChange walkFindsSpec)

/-- ITS FALSE NEIGHBOUR: 'it returns false'. Refute it at one input. -/
def walkFindsWrong : ChangeSpec := { name := "walkFinds", fn := fun _ => fun
  | [d1, d2, d3, d4] => { results := [.lit (.bool false)], args := [d1, d2, d3, d4] }
  | _ => none }
def WalkFindsWrongFalsely : Prop := walkFindsRow.holds Tryd.pinned (OpenSpec.ofChange walkFindsWrong)

/-- 'atlaslaw09.WalkReads': WHATEVER THE INPUT: true; the input reads as it did. -/
def walkReadsSpec : ChangeSpec := { name := "walkReads", fn := fun _ => fun
  | [d1, d2, d3, d4] => { results := [.lit (.bool true)], args := [d1, d2, d3, d4] }
  | _ => none }
def walkReadsRow : OpenClaim := { program := "ytpdijogpbnaplaadoor", sum := "dbf160f33ca63c9da05410dfd5e1eaea0c09aa58d0911671b8d8fbfd7dbc6329", func := "atlas/atlaslaw09.WalkReads", spec := "walkReads", unfollowed := true, recurses := true, named := ["atlas/desc.kinds", "atlas/desc.shifts"], apart := false, laid := [("atlas/desc.shifts", laid_atlas_desc_shifts), ("atlas/desc.kinds", laid_atlas_desc_kinds)] }
def WalkReadsSaid : Prop := walkReadsRow.holds Tryd.pinned (OpenSpec.ofChange walkReadsSpec)

/-- ITS FALSE NEIGHBOUR: 'it returns false'. Refute it at one input. -/
def walkReadsWrong : ChangeSpec := { name := "walkReads", fn := fun _ => fun
  | [d1, d2, d3, d4] => { results := [.lit (.bool false)], args := [d1, d2, d3, d4] }
  | _ => none }
def WalkReadsWrongFalsely : Prop := walkReadsRow.holds Tryd.pinned (OpenSpec.ofChange walkReadsWrong)

/-- 'atlaslaw09.WalkEdit': WHATEVER THE INPUT: true; the input reads as it did. -/
def walkEditSpec : ChangeSpec := { name := "walkEdit", fn := fun _ => fun
  | [d1, d2, d3, d4, d5] => { results := [.lit (.bool true)], args := [d1, d2, d3, d4, d5] }
  | _ => none }
def walkEditRow : OpenClaim := { program := "ytpdijogpbnaplaadoor", sum := "dbf160f33ca63c9da05410dfd5e1eaea0c09aa58d0911671b8d8fbfd7dbc6329", func := "atlas/atlaslaw09.WalkEdit", spec := "walkEdit", unfollowed := true, recurses := true, named := ["atlas/desc.kinds", "atlas/desc.shifts"], apart := false, laid := [("atlas/desc.shifts", laid_atlas_desc_shifts), ("atlas/desc.kinds", laid_atlas_desc_kinds)] }
def WalkEditSaid : Prop := walkEditRow.holds Tryd.pinned (OpenSpec.ofChange walkEditSpec)

/-- ITS FALSE NEIGHBOUR: 'it returns false'. Refute it at one input. -/
def walkEditWrong : ChangeSpec := { name := "walkEdit", fn := fun _ => fun
  | [d1, d2, d3, d4, d5] => { results := [.lit (.bool false)], args := [d1, d2, d3, d4, d5] }
  | _ => none }
def WalkEditWrongFalsely : Prop := walkEditRow.holds Tryd.pinned (OpenSpec.ofChange walkEditWrong)

/-- 'atlaslaw09.WalkSame': WHATEVER THE INPUT: true; the input reads as it did. -/
def walkSameSpec : ChangeSpec := { name := "walkSame", fn := fun _ => fun
  | [d1, d2, d3, d4] => { results := [.lit (.bool true)], args := [d1, d2, d3, d4] }
  | _ => none }
def walkSameRow : OpenClaim := { program := "ytpdijogpbnaplaadoor", sum := "dbf160f33ca63c9da05410dfd5e1eaea0c09aa58d0911671b8d8fbfd7dbc6329", func := "atlas/atlaslaw09.WalkSame", spec := "walkSame", unfollowed := true, recurses := true, named := ["atlas/desc.shifts", "atlas/desc.kinds"], apart := false, laid := [("atlas/desc.shifts", laid_atlas_desc_shifts), ("atlas/desc.kinds", laid_atlas_desc_kinds)] }
def WalkSameSaid : Prop := walkSameRow.holds Tryd.pinned (OpenSpec.ofChange walkSameSpec)

/-- ITS FALSE NEIGHBOUR: 'it returns false'. Refute it at one input. -/
def walkSameWrong : ChangeSpec := { name := "walkSame", fn := fun _ => fun
  | [d1, d2, d3, d4] => { results := [.lit (.bool false)], args := [d1, d2, d3, d4] }
  | _ => none }
def WalkSameWrongFalsely : Prop := walkSameRow.holds Tryd.pinned (OpenSpec.ofChange walkSameWrong)

/-- 'atlaslaw09.WalkGo': WHATEVER THE INPUT: true; the input reads as it did. -/
def walkGoSpec : ChangeSpec := { name := "walkGo", fn := fun _ => fun
  | [d1, d2, d3, d4, d5] => { results := [.lit (.bool true)], args := [d1, d2, d3, d4, d5] }
  | _ => none }
def walkGoRow : OpenClaim := { program := "ytpdijogpbnaplaadoor", sum := "dbf160f33ca63c9da05410dfd5e1eaea0c09aa58d0911671b8d8fbfd7dbc6329", func := "atlas/atlaslaw09.WalkGo", spec := "walkGo", unfollowed := true, recurses := true, named := ["atlas/desc.kinds", "atlas/desc.shifts", "atlas/rights.plain", "atlas/rights.flagged"], apart := false, laid := [("atlas/desc.shifts", laid_atlas_desc_shifts), ("atlas/desc.kinds", laid_atlas_desc_kinds), ("atlas/rights.plain", laid_atlas_rights_plain), ("atlas/rights.flagged", laid_atlas_rights_flagged)] }
def WalkGoSaid : Prop := walkGoRow.holds Tryd.pinned (OpenSpec.ofChange walkGoSpec)

/-- ITS FALSE NEIGHBOUR: 'it returns false'. Refute it at one input. -/
def walkGoWrong : ChangeSpec := { name := "walkGo", fn := fun _ => fun
  | [d1, d2, d3, d4, d5] => { results := [.lit (.bool false)], args := [d1, d2, d3, d4, d5] }
  | _ => none }
def WalkGoWrongFalsely : Prop := walkGoRow.holds Tryd.pinned (OpenSpec.ofChange walkGoWrong)

/-- 'atlaslaw09.WalkPages': WHATEVER THE INPUT: true; the input reads as it did. -/
def walkPagesSpec : ChangeSpec := { name := "walkPages", fn := fun _ => fun
  | [d1, d2, d3, d4, d5] => { results := [.lit (.bool true)], args := [d1, d2, d3, d4, d5] }
  | _ => none }
def walkPagesRow : OpenClaim := { program := "ytpdijogpbnaplaadoor", sum := "dbf160f33ca63c9da05410dfd5e1eaea0c09aa58d0911671b8d8fbfd7dbc6329", func := "atlas/atlaslaw09.WalkPages", spec := "walkPages", unfollowed := true, recurses := true, named := ["atlas/desc.kinds", "atlas/desc.shifts", "atlas/rights.plain", "atlas/rights.flagged"], apart := false, laid := [("atlas/desc.shifts", laid_atlas_desc_shifts), ("atlas/desc.kinds", laid_atlas_desc_kinds), ("atlas/rights.plain", laid_atlas_rights_plain), ("atlas/rights.flagged", laid_atlas_rights_flagged)] }
def WalkPagesSaid : Prop := walkPagesRow.holds Tryd.pinned (OpenSpec.ofChange walkPagesSpec)

/-- ITS FALSE NEIGHBOUR: 'it returns false'. Refute it at one input. -/
def walkPagesWrong : ChangeSpec := { name := "walkPages", fn := fun _ => fun
  | [d1, d2, d3, d4, d5] => { results := [.lit (.bool false)], args := [d1, d2, d3, d4, d5] }
  | _ => none }
def WalkPagesWrongFalsely : Prop := walkPagesRow.holds Tryd.pinned (OpenSpec.ofChange walkPagesWrong)

/-- 'atlaslaw09.WalkBlocks': WHATEVER THE INPUT: true; the input reads as it did. -/
def walkBlocksSpec : ChangeSpec := { name := "walkBlocks", fn := fun _ => fun
  | [d1, d2, d3, d4] => { results := [.lit (.bool true)], args := [d1, d2, d3, d4] }
  | _ => none }
def walkBlocksRow : OpenClaim := { program := "ytpdijogpbnaplaadoor", sum := "dbf160f33ca63c9da05410dfd5e1eaea0c09aa58d0911671b8d8fbfd7dbc6329", func := "atlas/atlaslaw09.WalkBlocks", spec := "walkBlocks", unfollowed := true, recurses := true, named := ["atlas/desc.kinds", "atlas/desc.shifts"], apart := false, laid := [("atlas/desc.shifts", laid_atlas_desc_shifts), ("atlas/desc.kinds", laid_atlas_desc_kinds)] }
def WalkBlocksSaid : Prop := walkBlocksRow.holds Tryd.pinned (OpenSpec.ofChange walkBlocksSpec)

/-- ITS FALSE NEIGHBOUR: 'it returns false'. Refute it at one input. -/
def walkBlocksWrong : ChangeSpec := { name := "walkBlocks", fn := fun _ => fun
  | [d1, d2, d3, d4] => { results := [.lit (.bool false)], args := [d1, d2, d3, d4] }
  | _ => none }
def WalkBlocksWrongFalsely : Prop := walkBlocksRow.holds Tryd.pinned (OpenSpec.ofChange walkBlocksWrong)

/-- 'atlaslaw09.WalkListed': WHATEVER THE INPUT: true; the input reads as it did. -/
def walkListedSpec : ChangeSpec := { name := "walkListed", fn := fun _ => fun
  | [d1, d2, d3, d4, d5] => { results := [.lit (.bool true)], args := [d1, d2, d3, d4, d5] }
  | _ => none }
def walkListedRow : OpenClaim := { program := "ytpdijogpbnaplaadoor", sum := "dbf160f33ca63c9da05410dfd5e1eaea0c09aa58d0911671b8d8fbfd7dbc6329", func := "atlas/atlaslaw09.WalkListed", spec := "walkListed", unfollowed := true, recurses := true, named := ["atlas/desc.kinds", "atlas/desc.shifts"], apart := false, laid := [("atlas/desc.shifts", laid_atlas_desc_shifts), ("atlas/desc.kinds", laid_atlas_desc_kinds)] }
def WalkListedSaid : Prop := walkListedRow.holds Tryd.pinned (OpenSpec.ofChange walkListedSpec)

/-- ITS FALSE NEIGHBOUR: 'it returns false'. Refute it at one input. -/
def walkListedWrong : ChangeSpec := { name := "walkListed", fn := fun _ => fun
  | [d1, d2, d3, d4, d5] => { results := [.lit (.bool false)], args := [d1, d2, d3, d4, d5] }
  | _ => none }
def WalkListedWrongFalsely : Prop := walkListedRow.holds Tryd.pinned (OpenSpec.ofChange walkListedWrong)

/-- 'atlaslaw09.WalkNone': WHATEVER THE INPUT: true; the input reads as it did. -/
def walkNoneSpec : ChangeSpec := { name := "walkNone", fn := fun _ => fun
  | [d1, d2, d3] => { results := [.lit (.bool true)], args := [d1, d2, d3] }
  | _ => none }
def walkNoneRow : OpenClaim := { program := "ytpdijogpbnaplaadoor", sum := "dbf160f33ca63c9da05410dfd5e1eaea0c09aa58d0911671b8d8fbfd7dbc6329", func := "atlas/atlaslaw09.WalkNone", spec := "walkNone", unfollowed := true, recurses := true, named := ["atlas/desc.kinds", "atlas/desc.shifts", "atlas/rights.plain", "atlas/rights.flagged"], apart := false, laid := [("atlas/desc.shifts", laid_atlas_desc_shifts), ("atlas/desc.kinds", laid_atlas_desc_kinds), ("atlas/rights.plain", laid_atlas_rights_plain), ("atlas/rights.flagged", laid_atlas_rights_flagged)] }
def WalkNoneSaid : Prop := walkNoneRow.holds Tryd.pinned (OpenSpec.ofChange walkNoneSpec)

/-- ITS FALSE NEIGHBOUR: 'it returns false'. Refute it at one input. -/
def walkNoneWrong : ChangeSpec := { name := "walkNone", fn := fun _ => fun
  | [d1, d2, d3] => { results := [.lit (.bool false)], args := [d1, d2, d3] }
  | _ => none }
def WalkNoneWrongFalsely : Prop := walkNoneRow.holds Tryd.pinned (OpenSpec.ofChange walkNoneWrong)

/- THE SECOND FORM. 'bulk': how many values and letters a reading holds, each counted each time it is reached (what is shared counts as often as it is met; a slice's spare places count too). A statement '..UptoSaid' is the law's where the arguments, and the package variables that the reading takes, are together of bulk at most 1048576: NARROWER than '..Said'. Prove '..Said' where nothing that the law and all that it calls make is longer than what came in: it says more and counts as full. Else prove '..UptoSaid'. A law counts once. -/
mutual
def uptoBulk {H : Type} : DataW H → Nat
  | .lit (.string bytes) => bytes.length + 1
  | .lit _ => 1
  | .nil => 1
  | .ptr d => uptoBulk d + 1
  | .slice elems spare => uptoBulkAll elems + uptoBulkAll spare + 1
  | .agg parts => uptoBulkAll parts + 1
  | .iface _ d => uptoBulk d + 1
  | .map entries => uptoBulkEntries entries + 1
  | .held _ => 1
def uptoBulkAll {H : Type} : List (DataW H) → Nat
  | [] => 0
  | d :: r => uptoBulk d + uptoBulkAll r
def uptoBulkEntries {H : Type} : List (Lit × DataW H) → Nat
  | [] => 0
  | x :: r => uptoBulkEntry x + uptoBulkEntries r
def uptoBulkEntry {H : Type} : Lit × DataW H → Nat
  | (.string bytes, d) => bytes.length + uptoBulk d + 1
  | (_, d) => uptoBulk d + 1
 end
def uptoSmall : (H : Type) → List (DataW H) → Bool := fun _ ds => decide (uptoBulkAll ds ≤ 1048576)
def OpenSpec.upto (s : _root_.Go.ChangeSpec) : _root_.Go.OpenSpec := { _root_.Go.OpenSpec.ofChange s with cond := some uptoSmall }

/-- 'atlaslaw09.WalkFinds', WHERE WHAT IT READS IS OF BULK AT MOST 1048576: true; the input reads as it did. -/
def walkFindsUptoRow : OpenClaim := { program := "ytpdijogpbnaplaadoor", sum := "dbf160f33ca63c9da05410dfd5e1eaea0c09aa58d0911671b8d8fbfd7dbc6329", func := "atlas/atlaslaw09.WalkFinds", spec := "walkFinds", unfollowed := true, recurses := true, named := ["atlas/desc.kinds", "atlas/desc.shifts"], apart := false, laid := [("atlas/desc.shifts", laid_atlas_desc_shifts), ("atlas/desc.kinds", laid_atlas_desc_kinds)], narrowed := true }
def WalkFindsUptoSaid : Prop := walkFindsUptoRow.holds Tryd.pinned (OpenSpec.upto walkFindsSpec)

/-- 'atlaslaw09.WalkReads', WHERE WHAT IT READS IS OF BULK AT MOST 1048576: true; the input reads as it did. -/
def walkReadsUptoRow : OpenClaim := { program := "ytpdijogpbnaplaadoor", sum := "dbf160f33ca63c9da05410dfd5e1eaea0c09aa58d0911671b8d8fbfd7dbc6329", func := "atlas/atlaslaw09.WalkReads", spec := "walkReads", unfollowed := true, recurses := true, named := ["atlas/desc.kinds", "atlas/desc.shifts"], apart := false, laid := [("atlas/desc.shifts", laid_atlas_desc_shifts), ("atlas/desc.kinds", laid_atlas_desc_kinds)], narrowed := true }
def WalkReadsUptoSaid : Prop := walkReadsUptoRow.holds Tryd.pinned (OpenSpec.upto walkReadsSpec)

/-- 'atlaslaw09.WalkEdit', WHERE WHAT IT READS IS OF BULK AT MOST 1048576: true; the input reads as it did. -/
def walkEditUptoRow : OpenClaim := { program := "ytpdijogpbnaplaadoor", sum := "dbf160f33ca63c9da05410dfd5e1eaea0c09aa58d0911671b8d8fbfd7dbc6329", func := "atlas/atlaslaw09.WalkEdit", spec := "walkEdit", unfollowed := true, recurses := true, named := ["atlas/desc.kinds", "atlas/desc.shifts"], apart := false, laid := [("atlas/desc.shifts", laid_atlas_desc_shifts), ("atlas/desc.kinds", laid_atlas_desc_kinds)], narrowed := true }
def WalkEditUptoSaid : Prop := walkEditUptoRow.holds Tryd.pinned (OpenSpec.upto walkEditSpec)

/-- 'atlaslaw09.WalkSame', WHERE WHAT IT READS IS OF BULK AT MOST 1048576: true; the input reads as it did. -/
def walkSameUptoRow : OpenClaim := { program := "ytpdijogpbnaplaadoor", sum := "dbf160f33ca63c9da05410dfd5e1eaea0c09aa58d0911671b8d8fbfd7dbc6329", func := "atlas/atlaslaw09.WalkSame", spec := "walkSame", unfollowed := true, recurses := true, named := ["atlas/desc.shifts", "atlas/desc.kinds"], apart := false, laid := [("atlas/desc.shifts", laid_atlas_desc_shifts), ("atlas/desc.kinds", laid_atlas_desc_kinds)], narrowed := true }
def WalkSameUptoSaid : Prop := walkSameUptoRow.holds Tryd.pinned (OpenSpec.upto walkSameSpec)

/-- 'atlaslaw09.WalkGo', WHERE WHAT IT READS IS OF BULK AT MOST 1048576: true; the input reads as it did. -/
def walkGoUptoRow : OpenClaim := { program := "ytpdijogpbnaplaadoor", sum := "dbf160f33ca63c9da05410dfd5e1eaea0c09aa58d0911671b8d8fbfd7dbc6329", func := "atlas/atlaslaw09.WalkGo", spec := "walkGo", unfollowed := true, recurses := true, named := ["atlas/desc.kinds", "atlas/desc.shifts", "atlas/rights.plain", "atlas/rights.flagged"], apart := false, laid := [("atlas/desc.shifts", laid_atlas_desc_shifts), ("atlas/desc.kinds", laid_atlas_desc_kinds), ("atlas/rights.plain", laid_atlas_rights_plain), ("atlas/rights.flagged", laid_atlas_rights_flagged)], narrowed := true }
def WalkGoUptoSaid : Prop := walkGoUptoRow.holds Tryd.pinned (OpenSpec.upto walkGoSpec)

/-- 'atlaslaw09.WalkPages', WHERE WHAT IT READS IS OF BULK AT MOST 1048576: true; the input reads as it did. -/
def walkPagesUptoRow : OpenClaim := { program := "ytpdijogpbnaplaadoor", sum := "dbf160f33ca63c9da05410dfd5e1eaea0c09aa58d0911671b8d8fbfd7dbc6329", func := "atlas/atlaslaw09.WalkPages", spec := "walkPages", unfollowed := true, recurses := true, named := ["atlas/desc.kinds", "atlas/desc.shifts", "atlas/rights.plain", "atlas/rights.flagged"], apart := false, laid := [("atlas/desc.shifts", laid_atlas_desc_shifts), ("atlas/desc.kinds", laid_atlas_desc_kinds), ("atlas/rights.plain", laid_atlas_rights_plain), ("atlas/rights.flagged", laid_atlas_rights_flagged)], narrowed := true }
def WalkPagesUptoSaid : Prop := walkPagesUptoRow.holds Tryd.pinned (OpenSpec.upto walkPagesSpec)

/-- 'atlaslaw09.WalkBlocks', WHERE WHAT IT READS IS OF BULK AT MOST 1048576: true; the input reads as it did. -/
def walkBlocksUptoRow : OpenClaim := { program := "ytpdijogpbnaplaadoor", sum := "dbf160f33ca63c9da05410dfd5e1eaea0c09aa58d0911671b8d8fbfd7dbc6329", func := "atlas/atlaslaw09.WalkBlocks", spec := "walkBlocks", unfollowed := true, recurses := true, named := ["atlas/desc.kinds", "atlas/desc.shifts"], apart := false, laid := [("atlas/desc.shifts", laid_atlas_desc_shifts), ("atlas/desc.kinds", laid_atlas_desc_kinds)], narrowed := true }
def WalkBlocksUptoSaid : Prop := walkBlocksUptoRow.holds Tryd.pinned (OpenSpec.upto walkBlocksSpec)

/-- 'atlaslaw09.WalkListed', WHERE WHAT IT READS IS OF BULK AT MOST 1048576: true; the input reads as it did. -/
def walkListedUptoRow : OpenClaim := { program := "ytpdijogpbnaplaadoor", sum := "dbf160f33ca63c9da05410dfd5e1eaea0c09aa58d0911671b8d8fbfd7dbc6329", func := "atlas/atlaslaw09.WalkListed", spec := "walkListed", unfollowed := true, recurses := true, named := ["atlas/desc.kinds", "atlas/desc.shifts"], apart := false, laid := [("atlas/desc.shifts", laid_atlas_desc_shifts), ("atlas/desc.kinds", laid_atlas_desc_kinds)], narrowed := true }
def WalkListedUptoSaid : Prop := walkListedUptoRow.holds Tryd.pinned (OpenSpec.upto walkListedSpec)

/-- 'atlaslaw09.WalkNone', WHERE WHAT IT READS IS OF BULK AT MOST 1048576: true; the input reads as it did. -/
def walkNoneUptoRow : OpenClaim := { program := "ytpdijogpbnaplaadoor", sum := "dbf160f33ca63c9da05410dfd5e1eaea0c09aa58d0911671b8d8fbfd7dbc6329", func := "atlas/atlaslaw09.WalkNone", spec := "walkNone", unfollowed := true, recurses := true, named := ["atlas/desc.kinds", "atlas/desc.shifts", "atlas/rights.plain", "atlas/rights.flagged"], apart := false, laid := [("atlas/desc.shifts", laid_atlas_desc_shifts), ("atlas/desc.kinds", laid_atlas_desc_kinds), ("atlas/rights.plain", laid_atlas_rights_plain), ("atlas/rights.flagged", laid_atlas_rights_flagged)], narrowed := true }
def WalkNoneUptoSaid : Prop := walkNoneUptoRow.holds Tryd.pinned (OpenSpec.upto walkNoneSpec)

end Rows
end Go.Proofs.YtpdijogpbnaplaaDoor
