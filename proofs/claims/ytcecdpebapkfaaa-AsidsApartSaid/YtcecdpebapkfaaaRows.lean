/-
  No cell of these rows narrows 'for every input' (looked for: loops, veiled, ifaces, maps, wideKeys, modest, calm, conditions, laid).
  DERIVED. THE GIVEN ROWS OF THIS SEAT. 8 by the template 'for every input the law returns true; each argument reads behind the call as it read before'; 0 by the template 'total and deterministic' (their statements: YtcecdpebapkfaaaTotals.lean).
  GIVEN WITH THE SEED: the statements are not yours to turn. If you find one false, say at which input.
  Laid BY PROGRAM, IN A SANDBOX (cutbox-rows.mjs): the forced cells as the released guide's own fill.sh prints them over the translation 3ca96052df83fd12… (all of the seat's roots in one cut). By AI agents, Wed Nov 11 2026. No macro, syntax, notation, axiom, sorry.
-/
import Derived.Test.YtcecdpebapkfaaaChecked
import GoSem.Claim
import GoSem.ClaimJoined
import GoSem.ClaimMapViews
import Derived.JoinedTies
import Derived.KernelRfl
namespace Go.Proofs.Ytcecdpebapkfaaa
/- THE CELL 'sum', in the pinned program and in every row, IS THE sha256 OF THE DUMP (.gsa) THAT YtcecdpebapkfaaaProg.lean LOADS. Nothing in Lean hashes anything: it is a label: what it is worth is what the hold of that sum in a sandbox is worth. -/
noncomputable def Try.pinned : Pinned := { name := "ytcecdpebapkfaaa", sum := "3ca96052df83fd1275be0b8b6a705ed6047256bfea593ed897c84dc3925084db", checked := Try.checked }
namespace Rows
def none {H : Type} : Left H := { results := [], args := [] }

/-- 'atlaslaw25.AsidsServe': WHATEVER THE INPUT: true; the input reads as it did. -/
def asidsServeSpec : ChangeSpec := { name := "asidsServe", fn := fun _ => fun
  | [d1, d2] => { results := [.lit (.bool true)], args := [d1, d2] }
  | _ => none }
def asidsServeRow : OpenClaim := { program := "ytcecdpebapkfaaa", sum := "3ca96052df83fd1275be0b8b6a705ed6047256bfea593ed897c84dc3925084db", func := "atlas/atlaslaw25.AsidsServe", spec := "asidsServe", apart := false }
def AsidsServeSaid : Prop := asidsServeRow.holds Try.pinned (OpenSpec.ofChange asidsServeSpec)

/-- ITS FALSE NEIGHBOUR: 'it returns false'. Refute it at one input. -/
def asidsServeWrong : ChangeSpec := { name := "asidsServe", fn := fun _ => fun
  | [d1, d2] => { results := [.lit (.bool false)], args := [d1, d2] }
  | _ => none }
def AsidsServeWrongFalsely : Prop := asidsServeRow.holds Try.pinned (OpenSpec.ofChange asidsServeWrong)

/-- 'atlaslaw25.AsidsSeldom': WHATEVER THE INPUT: true; the input reads as it did. -/
def asidsSeldomSpec : ChangeSpec := { name := "asidsSeldom", fn := fun _ => fun
  | [d1, d2] => { results := [.lit (.bool true)], args := [d1, d2] }
  | _ => none }
def asidsSeldomRow : OpenClaim := { program := "ytcecdpebapkfaaa", sum := "3ca96052df83fd1275be0b8b6a705ed6047256bfea593ed897c84dc3925084db", func := "atlas/atlaslaw25.AsidsSeldom", spec := "asidsSeldom", apart := false }
def AsidsSeldomSaid : Prop := asidsSeldomRow.holds Try.pinned (OpenSpec.ofChange asidsSeldomSpec)

/-- ITS FALSE NEIGHBOUR: 'it returns false'. Refute it at one input. -/
def asidsSeldomWrong : ChangeSpec := { name := "asidsSeldom", fn := fun _ => fun
  | [d1, d2] => { results := [.lit (.bool false)], args := [d1, d2] }
  | _ => none }
def AsidsSeldomWrongFalsely : Prop := asidsSeldomRow.holds Try.pinned (OpenSpec.ofChange asidsSeldomWrong)

/-- 'atlaslaw25.AsidsMakes': WHATEVER THE INPUT: true; the input reads as it did. -/
def asidsMakesSpec : ChangeSpec := { name := "asidsMakes", fn := fun _ => fun
  | [d] => { results := [.lit (.bool true)], args := [d] }
  | _ => none }
def asidsMakesRow : OpenClaim := { program := "ytcecdpebapkfaaa", sum := "3ca96052df83fd1275be0b8b6a705ed6047256bfea593ed897c84dc3925084db", func := "atlas/atlaslaw25.AsidsMakes", spec := "asidsMakes", recurses := true, apart := false }
def AsidsMakesSaid : Prop := asidsMakesRow.holds Try.pinned (OpenSpec.ofChange asidsMakesSpec)

/-- ITS FALSE NEIGHBOUR: 'it returns false'. Refute it at one input. -/
def asidsMakesWrong : ChangeSpec := { name := "asidsMakes", fn := fun _ => fun
  | [d] => { results := [.lit (.bool false)], args := [d] }
  | _ => none }
def AsidsMakesWrongFalsely : Prop := asidsMakesRow.holds Try.pinned (OpenSpec.ofChange asidsMakesWrong)

/-- 'atlaslaw25.AsidsOpens': WHATEVER THE INPUT: true; the input reads as it did. -/
def asidsOpensSpec : ChangeSpec := { name := "asidsOpens", fn := fun _ => fun
  | [d1, d2] => { results := [.lit (.bool true)], args := [d1, d2] }
  | _ => none }
def asidsOpensRow : OpenClaim := { program := "ytcecdpebapkfaaa", sum := "3ca96052df83fd1275be0b8b6a705ed6047256bfea593ed897c84dc3925084db", func := "atlas/atlaslaw25.AsidsOpens", spec := "asidsOpens", recurses := true, apart := false }
def AsidsOpensSaid : Prop := asidsOpensRow.holds Try.pinned (OpenSpec.ofChange asidsOpensSpec)

/-- ITS FALSE NEIGHBOUR: 'it returns false'. Refute it at one input. -/
def asidsOpensWrong : ChangeSpec := { name := "asidsOpens", fn := fun _ => fun
  | [d1, d2] => { results := [.lit (.bool false)], args := [d1, d2] }
  | _ => none }
def AsidsOpensWrongFalsely : Prop := asidsOpensRow.holds Try.pinned (OpenSpec.ofChange asidsOpensWrong)

/-- 'atlaslaw25.AsidsUses': WHATEVER THE INPUT: true; the input reads as it did. -/
def asidsUsesSpec : ChangeSpec := { name := "asidsUses", fn := fun _ => fun
  | [d1, d2] => { results := [.lit (.bool true)], args := [d1, d2] }
  | _ => none }
def asidsUsesRow : OpenClaim := { program := "ytcecdpebapkfaaa", sum := "3ca96052df83fd1275be0b8b6a705ed6047256bfea593ed897c84dc3925084db", func := "atlas/atlaslaw25.AsidsUses", spec := "asidsUses", recurses := true, apart := false }
def AsidsUsesSaid : Prop := asidsUsesRow.holds Try.pinned (OpenSpec.ofChange asidsUsesSpec)

/-- ITS FALSE NEIGHBOUR: 'it returns false'. Refute it at one input. -/
def asidsUsesWrong : ChangeSpec := { name := "asidsUses", fn := fun _ => fun
  | [d1, d2] => { results := [.lit (.bool false)], args := [d1, d2] }
  | _ => none }
def AsidsUsesWrongFalsely : Prop := asidsUsesRow.holds Try.pinned (OpenSpec.ofChange asidsUsesWrong)

/-- 'atlaslaw25.AsidsTells': WHATEVER THE INPUT: true; the input reads as it did. -/
def asidsTellsSpec : ChangeSpec := { name := "asidsTells", fn := fun _ => fun
  | [d1, d2] => { results := [.lit (.bool true)], args := [d1, d2] }
  | _ => none }
def asidsTellsRow : OpenClaim := { program := "ytcecdpebapkfaaa", sum := "3ca96052df83fd1275be0b8b6a705ed6047256bfea593ed897c84dc3925084db", func := "atlas/atlaslaw25.AsidsTells", spec := "asidsTells", recurses := true, apart := false }
def AsidsTellsSaid : Prop := asidsTellsRow.holds Try.pinned (OpenSpec.ofChange asidsTellsSpec)

/-- ITS FALSE NEIGHBOUR: 'it returns false'. Refute it at one input. -/
def asidsTellsWrong : ChangeSpec := { name := "asidsTells", fn := fun _ => fun
  | [d1, d2] => { results := [.lit (.bool false)], args := [d1, d2] }
  | _ => none }
def AsidsTellsWrongFalsely : Prop := asidsTellsRow.holds Try.pinned (OpenSpec.ofChange asidsTellsWrong)

/-- 'atlaslaw25.AsidsAll': WHATEVER THE INPUT: true; the input reads as it did. -/
def asidsAllSpec : ChangeSpec := { name := "asidsAll", fn := fun _ => fun
  | [d1, d2] => { results := [.lit (.bool true)], args := [d1, d2] }
  | _ => none }
def asidsAllRow : OpenClaim := { program := "ytcecdpebapkfaaa", sum := "3ca96052df83fd1275be0b8b6a705ed6047256bfea593ed897c84dc3925084db", func := "atlas/atlaslaw25.AsidsAll", spec := "asidsAll", recurses := true, apart := false }
def AsidsAllSaid : Prop := asidsAllRow.holds Try.pinned (OpenSpec.ofChange asidsAllSpec)

/-- ITS FALSE NEIGHBOUR: 'it returns false'. Refute it at one input. -/
def asidsAllWrong : ChangeSpec := { name := "asidsAll", fn := fun _ => fun
  | [d1, d2] => { results := [.lit (.bool false)], args := [d1, d2] }
  | _ => none }
def AsidsAllWrongFalsely : Prop := asidsAllRow.holds Try.pinned (OpenSpec.ofChange asidsAllWrong)

/-- 'atlaslaw25.AsidsApart': WHATEVER THE INPUT: true; the input reads as it did. -/
def asidsApartSpec : ChangeSpec := { name := "asidsApart", fn := fun _ => fun
  | [d1, d2] => { results := [.lit (.bool true)], args := [d1, d2] }
  | _ => none }
def asidsApartRow : OpenClaim := { program := "ytcecdpebapkfaaa", sum := "3ca96052df83fd1275be0b8b6a705ed6047256bfea593ed897c84dc3925084db", func := "atlas/atlaslaw25.AsidsApart", spec := "asidsApart", recurses := true, apart := false }
def AsidsApartSaid : Prop := asidsApartRow.holds Try.pinned (OpenSpec.ofChange asidsApartSpec)

/-- ITS FALSE NEIGHBOUR: 'it returns false'. Refute it at one input. -/
def asidsApartWrong : ChangeSpec := { name := "asidsApart", fn := fun _ => fun
  | [d1, d2] => { results := [.lit (.bool false)], args := [d1, d2] }
  | _ => none }
def AsidsApartWrongFalsely : Prop := asidsApartRow.holds Try.pinned (OpenSpec.ofChange asidsApartWrong)

/- THE SECOND FORM. 'bulk': how many values and letters a reading holds, each counted each time it is reached (what is shared counts as often as it is met; a slice's spare places count too). A statement '..UptoSaid' is the law's where the arguments, and the package variables that the reading takes, are together of bulk at most 1048576: NARROWER than '..Said'. Prove '..Said' where nothing that the law and all that it calls make is longer than what came in: it says more and counts as full. Else prove '..UptoSaid'. A law counts once. -/
mutual
def uptoBulk {H : Type} : DataW H → Nat
  | .lit (.string bytes) => bytes.length + 1
  | .lit _ => 1
  | .nil => 1
  | .ptr d => uptoBulk d + 1
  | .slice elems spare => uptoBulkAll elems + uptoBulkAll spare + 1
  | .agg parts => uptoBulkAll parts + 1
  | .iface _ d => uptoBulk d + 1
  | .map entries => uptoBulkEntries entries + 1
  | .held _ => 1
def uptoBulkAll {H : Type} : List (DataW H) → Nat
  | [] => 0
  | d :: r => uptoBulk d + uptoBulkAll r
def uptoBulkEntries {H : Type} : List (Lit × DataW H) → Nat
  | [] => 0
  | x :: r => uptoBulkEntry x + uptoBulkEntries r
def uptoBulkEntry {H : Type} : Lit × DataW H → Nat
  | (.string bytes, d) => bytes.length + uptoBulk d + 1
  | (_, d) => uptoBulk d + 1
 end
def uptoSmall : (H : Type) → List (DataW H) → Bool := fun _ ds => decide (uptoBulkAll ds ≤ 1048576)
def OpenSpec.upto (s : _root_.Go.ChangeSpec) : _root_.Go.OpenSpec := { _root_.Go.OpenSpec.ofChange s with cond := some uptoSmall }

/-- 'atlaslaw25.AsidsServe', WHERE WHAT IT READS IS OF BULK AT MOST 1048576: true; the input reads as it did. -/
def asidsServeUptoRow : OpenClaim := { program := "ytcecdpebapkfaaa", sum := "3ca96052df83fd1275be0b8b6a705ed6047256bfea593ed897c84dc3925084db", func := "atlas/atlaslaw25.AsidsServe", spec := "asidsServe", apart := false, narrowed := true }
def AsidsServeUptoSaid : Prop := asidsServeUptoRow.holds Try.pinned (OpenSpec.upto asidsServeSpec)

/-- 'atlaslaw25.AsidsSeldom', WHERE WHAT IT READS IS OF BULK AT MOST 1048576: true; the input reads as it did. -/
def asidsSeldomUptoRow : OpenClaim := { program := "ytcecdpebapkfaaa", sum := "3ca96052df83fd1275be0b8b6a705ed6047256bfea593ed897c84dc3925084db", func := "atlas/atlaslaw25.AsidsSeldom", spec := "asidsSeldom", apart := false, narrowed := true }
def AsidsSeldomUptoSaid : Prop := asidsSeldomUptoRow.holds Try.pinned (OpenSpec.upto asidsSeldomSpec)

/-- 'atlaslaw25.AsidsMakes', WHERE WHAT IT READS IS OF BULK AT MOST 1048576: true; the input reads as it did. -/
def asidsMakesUptoRow : OpenClaim := { program := "ytcecdpebapkfaaa", sum := "3ca96052df83fd1275be0b8b6a705ed6047256bfea593ed897c84dc3925084db", func := "atlas/atlaslaw25.AsidsMakes", spec := "asidsMakes", recurses := true, apart := false, narrowed := true }
def AsidsMakesUptoSaid : Prop := asidsMakesUptoRow.holds Try.pinned (OpenSpec.upto asidsMakesSpec)

/-- 'atlaslaw25.AsidsOpens', WHERE WHAT IT READS IS OF BULK AT MOST 1048576: true; the input reads as it did. -/
def asidsOpensUptoRow : OpenClaim := { program := "ytcecdpebapkfaaa", sum := "3ca96052df83fd1275be0b8b6a705ed6047256bfea593ed897c84dc3925084db", func := "atlas/atlaslaw25.AsidsOpens", spec := "asidsOpens", recurses := true, apart := false, narrowed := true }
def AsidsOpensUptoSaid : Prop := asidsOpensUptoRow.holds Try.pinned (OpenSpec.upto asidsOpensSpec)

/-- 'atlaslaw25.AsidsUses', WHERE WHAT IT READS IS OF BULK AT MOST 1048576: true; the input reads as it did. -/
def asidsUsesUptoRow : OpenClaim := { program := "ytcecdpebapkfaaa", sum := "3ca96052df83fd1275be0b8b6a705ed6047256bfea593ed897c84dc3925084db", func := "atlas/atlaslaw25.AsidsUses", spec := "asidsUses", recurses := true, apart := false, narrowed := true }
def AsidsUsesUptoSaid : Prop := asidsUsesUptoRow.holds Try.pinned (OpenSpec.upto asidsUsesSpec)

/-- 'atlaslaw25.AsidsTells', WHERE WHAT IT READS IS OF BULK AT MOST 1048576: true; the input reads as it did. -/
def asidsTellsUptoRow : OpenClaim := { program := "ytcecdpebapkfaaa", sum := "3ca96052df83fd1275be0b8b6a705ed6047256bfea593ed897c84dc3925084db", func := "atlas/atlaslaw25.AsidsTells", spec := "asidsTells", recurses := true, apart := false, narrowed := true }
def AsidsTellsUptoSaid : Prop := asidsTellsUptoRow.holds Try.pinned (OpenSpec.upto asidsTellsSpec)

/-- 'atlaslaw25.AsidsAll', WHERE WHAT IT READS IS OF BULK AT MOST 1048576: true; the input reads as it did. -/
def asidsAllUptoRow : OpenClaim := { program := "ytcecdpebapkfaaa", sum := "3ca96052df83fd1275be0b8b6a705ed6047256bfea593ed897c84dc3925084db", func := "atlas/atlaslaw25.AsidsAll", spec := "asidsAll", recurses := true, apart := false, narrowed := true }
def AsidsAllUptoSaid : Prop := asidsAllUptoRow.holds Try.pinned (OpenSpec.upto asidsAllSpec)

/-- 'atlaslaw25.AsidsApart', WHERE WHAT IT READS IS OF BULK AT MOST 1048576: true; the input reads as it did. -/
def asidsApartUptoRow : OpenClaim := { program := "ytcecdpebapkfaaa", sum := "3ca96052df83fd1275be0b8b6a705ed6047256bfea593ed897c84dc3925084db", func := "atlas/atlaslaw25.AsidsApart", spec := "asidsApart", recurses := true, apart := false, narrowed := true }
def AsidsApartUptoSaid : Prop := asidsApartUptoRow.holds Try.pinned (OpenSpec.upto asidsApartSpec)

end Rows
end Go.Proofs.Ytcecdpebapkfaaa
