/-
  NARROWER THAN 'FOR EVERY INPUT', by the rows' own cells (each row's printed sentence says how): DescSizes: laid · DescEntry: laid · DescTrans: laid · DescWrites: laid · DescFlip: laid · DescBack: laid · DescSaid: laid · DescBlock: laid.
  DERIVED. THE GIVEN ROWS OF THIS SEAT. 8 by the template 'for every input the law returns true; each argument reads behind the call as it read before'; 0 by the template 'total and deterministic' (their statements: YtachmoamlalimaaDoorTotals.lean).
  GIVEN WITH THE SEED: the statements are not yours to turn. If you find one false, say at which input.
  Laid BY PROGRAM, IN A SANDBOX (cutbox-rows.mjs): the forced cells as the released guide's own fill.sh prints them over the translation 2e2524690e790c99… (all of the seat's roots in one cut). By AI agents, Wed Nov 11 2026. No macro, syntax, notation, axiom, sorry.
-/
import Derived.Test.YtachmoamlalimaaDoorChecked
import GoSem.Claim
import GoSem.ClaimJoined
import GoSem.ClaimMapViews
import Derived.JoinedTies
import Derived.KernelRfl
namespace Go.Proofs.YtachmoamlalimaaDoor
/- THE CELL 'sum', in the pinned program and in every row, IS THE sha256 OF THE DUMP (.gsa) THAT YtachmoamlalimaaDoorProg.lean LOADS. Nothing in Lean hashes anything: it is a label: what it is worth is what the hold of that sum in a sandbox is worth. -/
noncomputable def Tryd.pinned : Pinned := { name := "ytachmoamlalimaadoor", sum := "2e2524690e790c99157416bee635af22d2c100777d8ec11f090644a091c32259", checked := Tryd.checked }
namespace Rows
def none {H : Type} : Left H := { results := [], args := [] }

/- WHAT THE LISTED PACKAGE-LEVEL VARIABLES READ AS WHEN THE CALL BEGINS. Each datum BY PROGRAM (the guide's laid-datum.mjs) off the statement by which the dump's own 'gosem.cut.vars' lays the variable. In a bare row this is a premise. The card (YtachmoamlalimaaDoorCards.lean) ties it to the program's text. -/
def laid_atlas_desc_shifts {H : Type} : DataW H := .agg [.lit (.int .u64 0), .lit (.int .u64 12), .lit (.int .u64 16), .lit (.int .u64 20), .lit (.int .u64 24)]
def laid_atlas_desc_kinds {H : Type} : DataW H := .agg [.lit (.int .i64 0), .lit (.int .i64 5), .lit (.int .i64 4), .lit (.int .i64 2), .lit (.int .i64 3)]

/-- 'atlaslaw05.DescSizes': WHATEVER THE INPUT: true; the input reads as it did. -/
def descSizesSpec : ChangeSpec := { name := "descSizes", fn := fun _ => fun
  | [d] => { results := [.lit (.bool true)], args := [d] }
  | _ => none }
def descSizesRow : OpenClaim := { program := "ytachmoamlalimaadoor", sum := "2e2524690e790c99157416bee635af22d2c100777d8ec11f090644a091c32259", func := "atlas/atlaslaw05.DescSizes", spec := "descSizes", named := ["atlas/desc.shifts"], apart := false, laid := [("atlas/desc.shifts", laid_atlas_desc_shifts)] }
def DescSizesSaid : Prop := descSizesRow.holds Tryd.pinned (OpenSpec.ofChange descSizesSpec)

/-- ITS FALSE NEIGHBOUR: 'it returns false'. Refute it at one input. -/
def descSizesWrong : ChangeSpec := { name := "descSizes", fn := fun _ => fun
  | [d] => { results := [.lit (.bool false)], args := [d] }
  | _ => none }
def DescSizesWrongFalsely : Prop := descSizesRow.holds Tryd.pinned (OpenSpec.ofChange descSizesWrong)

/-- 'atlaslaw05.DescEntry': WHATEVER THE INPUT: true; the input reads as it did. -/
def descEntrySpec : ChangeSpec := { name := "descEntry", fn := fun _ => fun
  | [d] => { results := [.lit (.bool true)], args := [d] }
  | _ => none }
def descEntryRow : OpenClaim := { program := "ytachmoamlalimaadoor", sum := "2e2524690e790c99157416bee635af22d2c100777d8ec11f090644a091c32259", func := "atlas/atlaslaw05.DescEntry", spec := "descEntry", named := ["atlas/desc.kinds", "atlas/desc.shifts"], apart := false, laid := [("atlas/desc.shifts", laid_atlas_desc_shifts), ("atlas/desc.kinds", laid_atlas_desc_kinds)] }
def DescEntrySaid : Prop := descEntryRow.holds Tryd.pinned (OpenSpec.ofChange descEntrySpec)

/-- ITS FALSE NEIGHBOUR: 'it returns false'. Refute it at one input. -/
def descEntryWrong : ChangeSpec := { name := "descEntry", fn := fun _ => fun
  | [d] => { results := [.lit (.bool false)], args := [d] }
  | _ => none }
def DescEntryWrongFalsely : Prop := descEntryRow.holds Tryd.pinned (OpenSpec.ofChange descEntryWrong)

/-- 'atlaslaw05.DescTrans': WHATEVER THE INPUT: true; the input reads as it did. -/
def descTransSpec : ChangeSpec := { name := "descTrans", fn := fun _ => fun
  | [d1, d2, d3] => { results := [.lit (.bool true)], args := [d1, d2, d3] }
  | _ => none }
def descTransRow : OpenClaim := { program := "ytachmoamlalimaadoor", sum := "2e2524690e790c99157416bee635af22d2c100777d8ec11f090644a091c32259", func := "atlas/atlaslaw05.DescTrans", spec := "descTrans", named := ["atlas/desc.kinds", "atlas/desc.shifts"], apart := false, laid := [("atlas/desc.shifts", laid_atlas_desc_shifts), ("atlas/desc.kinds", laid_atlas_desc_kinds)] }
def DescTransSaid : Prop := descTransRow.holds Tryd.pinned (OpenSpec.ofChange descTransSpec)

/-- ITS FALSE NEIGHBOUR: 'it returns false'. Refute it at one input. -/
def descTransWrong : ChangeSpec := { name := "descTrans", fn := fun _ => fun
  | [d1, d2, d3] => { results := [.lit (.bool false)], args := [d1, d2, d3] }
  | _ => none }
def DescTransWrongFalsely : Prop := descTransRow.holds Tryd.pinned (OpenSpec.ofChange descTransWrong)

/-- 'atlaslaw05.DescWrites': WHATEVER THE INPUT: true; the input reads as it did. -/
def descWritesSpec : ChangeSpec := { name := "descWrites", fn := fun _ => fun
  | [d] => { results := [.lit (.bool true)], args := [d] }
  | _ => none }
def descWritesRow : OpenClaim := { program := "ytachmoamlalimaadoor", sum := "2e2524690e790c99157416bee635af22d2c100777d8ec11f090644a091c32259", func := "atlas/atlaslaw05.DescWrites", spec := "descWrites", named := ["atlas/desc.shifts"], apart := false, laid := [("atlas/desc.shifts", laid_atlas_desc_shifts)] }
def DescWritesSaid : Prop := descWritesRow.holds Tryd.pinned (OpenSpec.ofChange descWritesSpec)

/-- ITS FALSE NEIGHBOUR: 'it returns false'. Refute it at one input. -/
def descWritesWrong : ChangeSpec := { name := "descWrites", fn := fun _ => fun
  | [d] => { results := [.lit (.bool false)], args := [d] }
  | _ => none }
def DescWritesWrongFalsely : Prop := descWritesRow.holds Tryd.pinned (OpenSpec.ofChange descWritesWrong)

/-- 'atlaslaw05.DescFlip': WHATEVER THE INPUT: true; the input reads as it did. -/
def descFlipSpec : ChangeSpec := { name := "descFlip", fn := fun _ => fun
  | [d1, d2] => { results := [.lit (.bool true)], args := [d1, d2] }
  | _ => none }
def descFlipRow : OpenClaim := { program := "ytachmoamlalimaadoor", sum := "2e2524690e790c99157416bee635af22d2c100777d8ec11f090644a091c32259", func := "atlas/atlaslaw05.DescFlip", spec := "descFlip", named := ["atlas/desc.shifts"], apart := false, laid := [("atlas/desc.shifts", laid_atlas_desc_shifts)] }
def DescFlipSaid : Prop := descFlipRow.holds Tryd.pinned (OpenSpec.ofChange descFlipSpec)

/-- ITS FALSE NEIGHBOUR: 'it returns false'. Refute it at one input. -/
def descFlipWrong : ChangeSpec := { name := "descFlip", fn := fun _ => fun
  | [d1, d2] => { results := [.lit (.bool false)], args := [d1, d2] }
  | _ => none }
def DescFlipWrongFalsely : Prop := descFlipRow.holds Tryd.pinned (OpenSpec.ofChange descFlipWrong)

/-- 'atlaslaw05.DescBack': WHATEVER THE INPUT: true; the input reads as it did. -/
def descBackSpec : ChangeSpec := { name := "descBack", fn := fun _ => fun
  | [d] => { results := [.lit (.bool true)], args := [d] }
  | _ => none }
def descBackRow : OpenClaim := { program := "ytachmoamlalimaadoor", sum := "2e2524690e790c99157416bee635af22d2c100777d8ec11f090644a091c32259", func := "atlas/atlaslaw05.DescBack", spec := "descBack", named := ["atlas/desc.shifts"], apart := false, laid := [("atlas/desc.shifts", laid_atlas_desc_shifts)] }
def DescBackSaid : Prop := descBackRow.holds Tryd.pinned (OpenSpec.ofChange descBackSpec)

/-- ITS FALSE NEIGHBOUR: 'it returns false'. Refute it at one input. -/
def descBackWrong : ChangeSpec := { name := "descBack", fn := fun _ => fun
  | [d] => { results := [.lit (.bool false)], args := [d] }
  | _ => none }
def DescBackWrongFalsely : Prop := descBackRow.holds Tryd.pinned (OpenSpec.ofChange descBackWrong)

/-- 'atlaslaw05.DescSaid': WHATEVER THE INPUT: true; the input reads as it did. -/
def descSaidSpec : ChangeSpec := { name := "descSaid", fn := fun _ => fun
  | [d] => { results := [.lit (.bool true)], args := [d] }
  | _ => none }
def descSaidRow : OpenClaim := { program := "ytachmoamlalimaadoor", sum := "2e2524690e790c99157416bee635af22d2c100777d8ec11f090644a091c32259", func := "atlas/atlaslaw05.DescSaid", spec := "descSaid", named := ["atlas/desc.shifts"], apart := false, laid := [("atlas/desc.shifts", laid_atlas_desc_shifts)] }
def DescSaidSaid : Prop := descSaidRow.holds Tryd.pinned (OpenSpec.ofChange descSaidSpec)

/-- ITS FALSE NEIGHBOUR: 'it returns false'. Refute it at one input. -/
def descSaidWrong : ChangeSpec := { name := "descSaid", fn := fun _ => fun
  | [d] => { results := [.lit (.bool false)], args := [d] }
  | _ => none }
def DescSaidWrongFalsely : Prop := descSaidRow.holds Tryd.pinned (OpenSpec.ofChange descSaidWrong)

/-- 'atlaslaw05.DescBlock': WHATEVER THE INPUT: true; the input reads as it did. -/
def descBlockSpec : ChangeSpec := { name := "descBlock", fn := fun _ => fun
  | [d1, d2, d3, d4, d5] => { results := [.lit (.bool true)], args := [d1, d2, d3, d4, d5] }
  | _ => none }
def descBlockRow : OpenClaim := { program := "ytachmoamlalimaadoor", sum := "2e2524690e790c99157416bee635af22d2c100777d8ec11f090644a091c32259", func := "atlas/atlaslaw05.DescBlock", spec := "descBlock", named := ["atlas/desc.shifts", "atlas/desc.kinds"], apart := false, laid := [("atlas/desc.shifts", laid_atlas_desc_shifts), ("atlas/desc.kinds", laid_atlas_desc_kinds)] }
def DescBlockSaid : Prop := descBlockRow.holds Tryd.pinned (OpenSpec.ofChange descBlockSpec)

/-- ITS FALSE NEIGHBOUR: 'it returns false'. Refute it at one input. -/
def descBlockWrong : ChangeSpec := { name := "descBlock", fn := fun _ => fun
  | [d1, d2, d3, d4, d5] => { results := [.lit (.bool false)], args := [d1, d2, d3, d4, d5] }
  | _ => none }
def DescBlockWrongFalsely : Prop := descBlockRow.holds Tryd.pinned (OpenSpec.ofChange descBlockWrong)

/- THE SECOND FORM. 'bulk': how many values and letters a reading holds, each counted each time it is reached (what is shared counts as often as it is met; a slice's spare places count too). A statement '..UptoSaid' is the law's where the arguments, and the package variables that the reading takes, are together of bulk at most 1048576: NARROWER than '..Said'. Prove '..Said' where nothing that the law and all that it calls make is longer than what came in: it says more and counts as full. Else prove '..UptoSaid'. A law counts once. -/
mutual
def uptoBulk {H : Type} : DataW H → Nat
  | .lit (.string bytes) => bytes.length + 1
  | .lit _ => 1
  | .nil => 1
  | .ptr d => uptoBulk d + 1
  | .slice elems spare => uptoBulkAll elems + uptoBulkAll spare + 1
  | .agg parts => uptoBulkAll parts + 1
  | .iface _ d => uptoBulk d + 1
  | .map entries => uptoBulkEntries entries + 1
  | .held _ => 1
def uptoBulkAll {H : Type} : List (DataW H) → Nat
  | [] => 0
  | d :: r => uptoBulk d + uptoBulkAll r
def uptoBulkEntries {H : Type} : List (Lit × DataW H) → Nat
  | [] => 0
  | x :: r => uptoBulkEntry x + uptoBulkEntries r
def uptoBulkEntry {H : Type} : Lit × DataW H → Nat
  | (.string bytes, d) => bytes.length + uptoBulk d + 1
  | (_, d) => uptoBulk d + 1
 end
def uptoSmall : (H : Type) → List (DataW H) → Bool := fun _ ds => decide (uptoBulkAll ds ≤ 1048576)
def OpenSpec.upto (s : _root_.Go.ChangeSpec) : _root_.Go.OpenSpec := { _root_.Go.OpenSpec.ofChange s with cond := some uptoSmall }

/-- 'atlaslaw05.DescSizes', WHERE WHAT IT READS IS OF BULK AT MOST 1048576: true; the input reads as it did. -/
def descSizesUptoRow : OpenClaim := { program := "ytachmoamlalimaadoor", sum := "2e2524690e790c99157416bee635af22d2c100777d8ec11f090644a091c32259", func := "atlas/atlaslaw05.DescSizes", spec := "descSizes", named := ["atlas/desc.shifts"], apart := false, laid := [("atlas/desc.shifts", laid_atlas_desc_shifts)], narrowed := true }
def DescSizesUptoSaid : Prop := descSizesUptoRow.holds Tryd.pinned (OpenSpec.upto descSizesSpec)

/-- 'atlaslaw05.DescEntry', WHERE WHAT IT READS IS OF BULK AT MOST 1048576: true; the input reads as it did. -/
def descEntryUptoRow : OpenClaim := { program := "ytachmoamlalimaadoor", sum := "2e2524690e790c99157416bee635af22d2c100777d8ec11f090644a091c32259", func := "atlas/atlaslaw05.DescEntry", spec := "descEntry", named := ["atlas/desc.kinds", "atlas/desc.shifts"], apart := false, laid := [("atlas/desc.shifts", laid_atlas_desc_shifts), ("atlas/desc.kinds", laid_atlas_desc_kinds)], narrowed := true }
def DescEntryUptoSaid : Prop := descEntryUptoRow.holds Tryd.pinned (OpenSpec.upto descEntrySpec)

/-- 'atlaslaw05.DescTrans', WHERE WHAT IT READS IS OF BULK AT MOST 1048576: true; the input reads as it did. -/
def descTransUptoRow : OpenClaim := { program := "ytachmoamlalimaadoor", sum := "2e2524690e790c99157416bee635af22d2c100777d8ec11f090644a091c32259", func := "atlas/atlaslaw05.DescTrans", spec := "descTrans", named := ["atlas/desc.kinds", "atlas/desc.shifts"], apart := false, laid := [("atlas/desc.shifts", laid_atlas_desc_shifts), ("atlas/desc.kinds", laid_atlas_desc_kinds)], narrowed := true }
def DescTransUptoSaid : Prop := descTransUptoRow.holds Tryd.pinned (OpenSpec.upto descTransSpec)

/-- 'atlaslaw05.DescWrites', WHERE WHAT IT READS IS OF BULK AT MOST 1048576: true; the input reads as it did. -/
def descWritesUptoRow : OpenClaim := { program := "ytachmoamlalimaadoor", sum := "2e2524690e790c99157416bee635af22d2c100777d8ec11f090644a091c32259", func := "atlas/atlaslaw05.DescWrites", spec := "descWrites", named := ["atlas/desc.shifts"], apart := false, laid := [("atlas/desc.shifts", laid_atlas_desc_shifts)], narrowed := true }
def DescWritesUptoSaid : Prop := descWritesUptoRow.holds Tryd.pinned (OpenSpec.upto descWritesSpec)

/-- 'atlaslaw05.DescFlip', WHERE WHAT IT READS IS OF BULK AT MOST 1048576: true; the input reads as it did. -/
def descFlipUptoRow : OpenClaim := { program := "ytachmoamlalimaadoor", sum := "2e2524690e790c99157416bee635af22d2c100777d8ec11f090644a091c32259", func := "atlas/atlaslaw05.DescFlip", spec := "descFlip", named := ["atlas/desc.shifts"], apart := false, laid := [("atlas/desc.shifts", laid_atlas_desc_shifts)], narrowed := true }
def DescFlipUptoSaid : Prop := descFlipUptoRow.holds Tryd.pinned (OpenSpec.upto descFlipSpec)

/-- 'atlaslaw05.DescBack', WHERE WHAT IT READS IS OF BULK AT MOST 1048576: true; the input reads as it did. -/
def descBackUptoRow : OpenClaim := { program := "ytachmoamlalimaadoor", sum := "2e2524690e790c99157416bee635af22d2c100777d8ec11f090644a091c32259", func := "atlas/atlaslaw05.DescBack", spec := "descBack", named := ["atlas/desc.shifts"], apart := false, laid := [("atlas/desc.shifts", laid_atlas_desc_shifts)], narrowed := true }
def DescBackUptoSaid : Prop := descBackUptoRow.holds Tryd.pinned (OpenSpec.upto descBackSpec)

/-- 'atlaslaw05.DescSaid', WHERE WHAT IT READS IS OF BULK AT MOST 1048576: true; the input reads as it did. -/
def descSaidUptoRow : OpenClaim := { program := "ytachmoamlalimaadoor", sum := "2e2524690e790c99157416bee635af22d2c100777d8ec11f090644a091c32259", func := "atlas/atlaslaw05.DescSaid", spec := "descSaid", named := ["atlas/desc.shifts"], apart := false, laid := [("atlas/desc.shifts", laid_atlas_desc_shifts)], narrowed := true }
def DescSaidUptoSaid : Prop := descSaidUptoRow.holds Tryd.pinned (OpenSpec.upto descSaidSpec)

/-- 'atlaslaw05.DescBlock', WHERE WHAT IT READS IS OF BULK AT MOST 1048576: true; the input reads as it did. -/
def descBlockUptoRow : OpenClaim := { program := "ytachmoamlalimaadoor", sum := "2e2524690e790c99157416bee635af22d2c100777d8ec11f090644a091c32259", func := "atlas/atlaslaw05.DescBlock", spec := "descBlock", named := ["atlas/desc.shifts", "atlas/desc.kinds"], apart := false, laid := [("atlas/desc.shifts", laid_atlas_desc_shifts), ("atlas/desc.kinds", laid_atlas_desc_kinds)], narrowed := true }
def DescBlockUptoSaid : Prop := descBlockUptoRow.holds Tryd.pinned (OpenSpec.upto descBlockSpec)

end Rows
end Go.Proofs.YtachmoamlalimaaDoor
