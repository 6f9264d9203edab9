/-
  No cell of these rows narrows 'for every input' (looked for: loops, veiled, ifaces, maps, wideKeys, modest, calm, conditions, laid).
  DERIVED. THE GIVEN ROWS OF THIS SEAT. 7 by the template 'for every input the law returns true; each argument reads behind the call as it read before'; 0 by the template 'total and deterministic' (their statements: YtipiilkdpmgneaaTotals.lean).
  GIVEN WITH THE SEED: the statements are not yours to turn. If you find one false, say at which input.
  Laid BY PROGRAM, IN A SANDBOX (cutbox-rows.mjs): the forced cells as the released guide's own fill.sh prints them over the translation c0b96a8659390698… (all of the seat's roots in one cut). By AI agents, Wed Nov 11 2026. No macro, syntax, notation, axiom, sorry.
-/
import Derived.Test.YtipiilkdpmgneaaChecked
import GoSem.Claim
import GoSem.ClaimJoined
import GoSem.ClaimMapViews
import Derived.JoinedTies
import Derived.KernelRfl
namespace Go.Proofs.Ytipiilkdpmgneaa
/- THE CELL 'sum', in the pinned program and in every row, IS THE sha256 OF THE DUMP (.gsa) THAT YtipiilkdpmgneaaProg.lean LOADS. Nothing in Lean hashes anything: it is a label: what it is worth is what the hold of that sum in a sandbox is worth. -/
noncomputable def Try.pinned : Pinned := { name := "ytipiilkdpmgneaa", sum := "c0b96a8659390698e5650afa05b1c7192fe764687f5d058ab447e1a87a055571", checked := Try.checked }
namespace Rows
def none {H : Type} : Left H := { results := [], args := [] }

/-- 'atlaslaw03.RamMakes': WHATEVER THE INPUT: true; the input reads as it did. -/
def ramMakesSpec : ChangeSpec := { name := "ramMakes", fn := fun _ => fun
  | [d] => { results := [.lit (.bool true)], args := [d] }
  | _ => none }
def ramMakesRow : OpenClaim := { program := "ytipiilkdpmgneaa", sum := "c0b96a8659390698e5650afa05b1c7192fe764687f5d058ab447e1a87a055571", func := "atlas/atlaslaw03.RamMakes", spec := "ramMakes", recurses := true, apart := false }
def RamMakesSaid : Prop := ramMakesRow.holds Try.pinned (OpenSpec.ofChange ramMakesSpec)

/-- ITS FALSE NEIGHBOUR: 'it returns false'. Refute it at one input. -/
def ramMakesWrong : ChangeSpec := { name := "ramMakes", fn := fun _ => fun
  | [d] => { results := [.lit (.bool false)], args := [d] }
  | _ => none }
def RamMakesWrongFalsely : Prop := ramMakesRow.holds Try.pinned (OpenSpec.ofChange ramMakesWrong)

/-- 'atlaslaw03.RamLast': WHATEVER THE INPUT: true; the input reads as it did. -/
def ramLastSpec : ChangeSpec := { name := "ramLast", fn := fun _ => fun
  | [d1, d2] => { results := [.lit (.bool true)], args := [d1, d2] }
  | _ => none }
def ramLastRow : OpenClaim := { program := "ytipiilkdpmgneaa", sum := "c0b96a8659390698e5650afa05b1c7192fe764687f5d058ab447e1a87a055571", func := "atlas/atlaslaw03.RamLast", spec := "ramLast", recurses := true, apart := false }
def RamLastSaid : Prop := ramLastRow.holds Try.pinned (OpenSpec.ofChange ramLastSpec)

/-- ITS FALSE NEIGHBOUR: 'it returns false'. Refute it at one input. -/
def ramLastWrong : ChangeSpec := { name := "ramLast", fn := fun _ => fun
  | [d1, d2] => { results := [.lit (.bool false)], args := [d1, d2] }
  | _ => none }
def RamLastWrongFalsely : Prop := ramLastRow.holds Try.pinned (OpenSpec.ofChange ramLastWrong)

/-- 'atlaslaw03.RamWords': WHATEVER THE INPUT: true; the input reads as it did. -/
def ramWordsSpec : ChangeSpec := { name := "ramWords", fn := fun _ => fun
  | [d1, d2] => { results := [.lit (.bool true)], args := [d1, d2] }
  | _ => none }
def ramWordsRow : OpenClaim := { program := "ytipiilkdpmgneaa", sum := "c0b96a8659390698e5650afa05b1c7192fe764687f5d058ab447e1a87a055571", func := "atlas/atlaslaw03.RamWords", spec := "ramWords", recurses := true, apart := false }
def RamWordsSaid : Prop := ramWordsRow.holds Try.pinned (OpenSpec.ofChange ramWordsSpec)

/-- ITS FALSE NEIGHBOUR: 'it returns false'. Refute it at one input. -/
def ramWordsWrong : ChangeSpec := { name := "ramWords", fn := fun _ => fun
  | [d1, d2] => { results := [.lit (.bool false)], args := [d1, d2] }
  | _ => none }
def RamWordsWrongFalsely : Prop := ramWordsRow.holds Try.pinned (OpenSpec.ofChange ramWordsWrong)

/-- 'atlaslaw03.RamBlocks': WHATEVER THE INPUT: true; the input reads as it did. -/
def ramBlocksSpec : ChangeSpec := { name := "ramBlocks", fn := fun _ => fun
  | [d1, d2] => { results := [.lit (.bool true)], args := [d1, d2] }
  | _ => none }
def ramBlocksRow : OpenClaim := { program := "ytipiilkdpmgneaa", sum := "c0b96a8659390698e5650afa05b1c7192fe764687f5d058ab447e1a87a055571", func := "atlas/atlaslaw03.RamBlocks", spec := "ramBlocks", recurses := true, apart := false }
def RamBlocksSaid : Prop := ramBlocksRow.holds Try.pinned (OpenSpec.ofChange ramBlocksSpec)

/-- ITS FALSE NEIGHBOUR: 'it returns false'. Refute it at one input. -/
def ramBlocksWrong : ChangeSpec := { name := "ramBlocks", fn := fun _ => fun
  | [d1, d2] => { results := [.lit (.bool false)], args := [d1, d2] }
  | _ => none }
def RamBlocksWrongFalsely : Prop := ramBlocksRow.holds Try.pinned (OpenSpec.ofChange ramBlocksWrong)

/-- 'atlaslaw03.RamWipes': WHATEVER THE INPUT: true; the input reads as it did. -/
def ramWipesSpec : ChangeSpec := { name := "ramWipes", fn := fun _ => fun
  | [d1, d2] => { results := [.lit (.bool true)], args := [d1, d2] }
  | _ => none }
def ramWipesRow : OpenClaim := { program := "ytipiilkdpmgneaa", sum := "c0b96a8659390698e5650afa05b1c7192fe764687f5d058ab447e1a87a055571", func := "atlas/atlaslaw03.RamWipes", spec := "ramWipes", recurses := true, apart := false }
def RamWipesSaid : Prop := ramWipesRow.holds Try.pinned (OpenSpec.ofChange ramWipesSpec)

/-- ITS FALSE NEIGHBOUR: 'it returns false'. Refute it at one input. -/
def ramWipesWrong : ChangeSpec := { name := "ramWipes", fn := fun _ => fun
  | [d1, d2] => { results := [.lit (.bool false)], args := [d1, d2] }
  | _ => none }
def RamWipesWrongFalsely : Prop := ramWipesRow.holds Try.pinned (OpenSpec.ofChange ramWipesWrong)

/-- 'atlaslaw03.RamAll': WHATEVER THE INPUT: true; the input reads as it did. -/
def ramAllSpec : ChangeSpec := { name := "ramAll", fn := fun _ => fun
  | [d1, d2] => { results := [.lit (.bool true)], args := [d1, d2] }
  | _ => none }
def ramAllRow : OpenClaim := { program := "ytipiilkdpmgneaa", sum := "c0b96a8659390698e5650afa05b1c7192fe764687f5d058ab447e1a87a055571", func := "atlas/atlaslaw03.RamAll", spec := "ramAll", recurses := true, apart := false }
def RamAllSaid : Prop := ramAllRow.holds Try.pinned (OpenSpec.ofChange ramAllSpec)

/-- ITS FALSE NEIGHBOUR: 'it returns false'. Refute it at one input. -/
def ramAllWrong : ChangeSpec := { name := "ramAll", fn := fun _ => fun
  | [d1, d2] => { results := [.lit (.bool false)], args := [d1, d2] }
  | _ => none }
def RamAllWrongFalsely : Prop := ramAllRow.holds Try.pinned (OpenSpec.ofChange ramAllWrong)

/-- 'atlaslaw03.RamOwn': WHATEVER THE INPUT: true; the input reads as it did. -/
def ramOwnSpec : ChangeSpec := { name := "ramOwn", fn := fun _ => fun
  | [d1, d2] => { results := [.lit (.bool true)], args := [d1, d2] }
  | _ => none }
def ramOwnRow : OpenClaim := { program := "ytipiilkdpmgneaa", sum := "c0b96a8659390698e5650afa05b1c7192fe764687f5d058ab447e1a87a055571", func := "atlas/atlaslaw03.RamOwn", spec := "ramOwn", recurses := true, apart := false }
def RamOwnSaid : Prop := ramOwnRow.holds Try.pinned (OpenSpec.ofChange ramOwnSpec)

/-- ITS FALSE NEIGHBOUR: 'it returns false'. Refute it at one input. -/
def ramOwnWrong : ChangeSpec := { name := "ramOwn", fn := fun _ => fun
  | [d1, d2] => { results := [.lit (.bool false)], args := [d1, d2] }
  | _ => none }
def RamOwnWrongFalsely : Prop := ramOwnRow.holds Try.pinned (OpenSpec.ofChange ramOwnWrong)

/- THE SECOND FORM. 'bulk': how many values and letters a reading holds, each counted each time it is reached (what is shared counts as often as it is met; a slice's spare places count too). A statement '..UptoSaid' is the law's where the arguments, and the package variables that the reading takes, are together of bulk at most 1048576: NARROWER than '..Said'. Prove '..Said' where nothing that the law and all that it calls make is longer than what came in: it says more and counts as full. Else prove '..UptoSaid'. A law counts once. -/
mutual
def uptoBulk {H : Type} : DataW H → Nat
  | .lit (.string bytes) => bytes.length + 1
  | .lit _ => 1
  | .nil => 1
  | .ptr d => uptoBulk d + 1
  | .slice elems spare => uptoBulkAll elems + uptoBulkAll spare + 1
  | .agg parts => uptoBulkAll parts + 1
  | .iface _ d => uptoBulk d + 1
  | .map entries => uptoBulkEntries entries + 1
  | .held _ => 1
def uptoBulkAll {H : Type} : List (DataW H) → Nat
  | [] => 0
  | d :: r => uptoBulk d + uptoBulkAll r
def uptoBulkEntries {H : Type} : List (Lit × DataW H) → Nat
  | [] => 0
  | x :: r => uptoBulkEntry x + uptoBulkEntries r
def uptoBulkEntry {H : Type} : Lit × DataW H → Nat
  | (.string bytes, d) => bytes.length + uptoBulk d + 1
  | (_, d) => uptoBulk d + 1
 end
def uptoSmall : (H : Type) → List (DataW H) → Bool := fun _ ds => decide (uptoBulkAll ds ≤ 1048576)
def OpenSpec.upto (s : _root_.Go.ChangeSpec) : _root_.Go.OpenSpec := { _root_.Go.OpenSpec.ofChange s with cond := some uptoSmall }

/-- 'atlaslaw03.RamMakes', WHERE WHAT IT READS IS OF BULK AT MOST 1048576: true; the input reads as it did. -/
def ramMakesUptoRow : OpenClaim := { program := "ytipiilkdpmgneaa", sum := "c0b96a8659390698e5650afa05b1c7192fe764687f5d058ab447e1a87a055571", func := "atlas/atlaslaw03.RamMakes", spec := "ramMakes", recurses := true, apart := false, narrowed := true }
def RamMakesUptoSaid : Prop := ramMakesUptoRow.holds Try.pinned (OpenSpec.upto ramMakesSpec)

/-- 'atlaslaw03.RamLast', WHERE WHAT IT READS IS OF BULK AT MOST 1048576: true; the input reads as it did. -/
def ramLastUptoRow : OpenClaim := { program := "ytipiilkdpmgneaa", sum := "c0b96a8659390698e5650afa05b1c7192fe764687f5d058ab447e1a87a055571", func := "atlas/atlaslaw03.RamLast", spec := "ramLast", recurses := true, apart := false, narrowed := true }
def RamLastUptoSaid : Prop := ramLastUptoRow.holds Try.pinned (OpenSpec.upto ramLastSpec)

/-- 'atlaslaw03.RamWords', WHERE WHAT IT READS IS OF BULK AT MOST 1048576: true; the input reads as it did. -/
def ramWordsUptoRow : OpenClaim := { program := "ytipiilkdpmgneaa", sum := "c0b96a8659390698e5650afa05b1c7192fe764687f5d058ab447e1a87a055571", func := "atlas/atlaslaw03.RamWords", spec := "ramWords", recurses := true, apart := false, narrowed := true }
def RamWordsUptoSaid : Prop := ramWordsUptoRow.holds Try.pinned (OpenSpec.upto ramWordsSpec)

/-- 'atlaslaw03.RamBlocks', WHERE WHAT IT READS IS OF BULK AT MOST 1048576: true; the input reads as it did. -/
def ramBlocksUptoRow : OpenClaim := { program := "ytipiilkdpmgneaa", sum := "c0b96a8659390698e5650afa05b1c7192fe764687f5d058ab447e1a87a055571", func := "atlas/atlaslaw03.RamBlocks", spec := "ramBlocks", recurses := true, apart := false, narrowed := true }
def RamBlocksUptoSaid : Prop := ramBlocksUptoRow.holds Try.pinned (OpenSpec.upto ramBlocksSpec)

/-- 'atlaslaw03.RamWipes', WHERE WHAT IT READS IS OF BULK AT MOST 1048576: true; the input reads as it did. -/
def ramWipesUptoRow : OpenClaim := { program := "ytipiilkdpmgneaa", sum := "c0b96a8659390698e5650afa05b1c7192fe764687f5d058ab447e1a87a055571", func := "atlas/atlaslaw03.RamWipes", spec := "ramWipes", recurses := true, apart := false, narrowed := true }
def RamWipesUptoSaid : Prop := ramWipesUptoRow.holds Try.pinned (OpenSpec.upto ramWipesSpec)

/-- 'atlaslaw03.RamAll', WHERE WHAT IT READS IS OF BULK AT MOST 1048576: true; the input reads as it did. -/
def ramAllUptoRow : OpenClaim := { program := "ytipiilkdpmgneaa", sum := "c0b96a8659390698e5650afa05b1c7192fe764687f5d058ab447e1a87a055571", func := "atlas/atlaslaw03.RamAll", spec := "ramAll", recurses := true, apart := false, narrowed := true }
def RamAllUptoSaid : Prop := ramAllUptoRow.holds Try.pinned (OpenSpec.upto ramAllSpec)

/-- 'atlaslaw03.RamOwn', WHERE WHAT IT READS IS OF BULK AT MOST 1048576: true; the input reads as it did. -/
def ramOwnUptoRow : OpenClaim := { program := "ytipiilkdpmgneaa", sum := "c0b96a8659390698e5650afa05b1c7192fe764687f5d058ab447e1a87a055571", func := "atlas/atlaslaw03.RamOwn", spec := "ramOwn", recurses := true, apart := false, narrowed := true }
def RamOwnUptoSaid : Prop := ramOwnUptoRow.holds Try.pinned (OpenSpec.upto ramOwnSpec)

end Rows
end Go.Proofs.Ytipiilkdpmgneaa
