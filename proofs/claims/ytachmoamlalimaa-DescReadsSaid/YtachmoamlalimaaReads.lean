/- DescReads: whatever the word, what the program reads of it at both levels is what the reference reads; the answer is true and the argument reads as before. No condition. -/
import Derived.Test.YtachmoamlalimaaRows
import Derived.Test.YtachmoamlalimaaSxThree
import Derived.KernelRfl
namespace Go.Proofs.Ytachmoamlalimaa.descReads
open Go Go.Proofs.YtachmoamlalimaaSx Go.ChangeShapes Go.WideShapes Go.ChangeAt Go.RowKit
theorem own : ownKnob Try.prog.godebug = none := by kernel_rfl
set_option maxRecDepth 100000
theorem says : saysTrueC Try.prog [] [] 100 20 3 [.val (.one (.int .u32 (.var 0)))] ⟨[(0, 4294967295)], [], []⟩ = true := by kernel_rfl
theorem lifted (os : Os) (started : os.Started) (H : Type) (enc : TypeId × Value → H) :
    ReturnsInHanded {} Try.checked os 3 .any (Rows.descReadsSpec.pre6 enc Try.prog Try.f3 Rows.descReadsRow.domain false) (Rows.descReadsSpec.post enc Try.prog Try.f3 false true false false) := by
  refine returnsInHanded_of_change (C := Try.checked) own started (by kernel_rfl) Try.func3
    (ChangeSpec.witness6 (enc := enc) (C := Try.checked) false ⟨#[], #[.int .u32 0], []⟩ 8 (by kernel_rfl) (by kernel_rfl) (by kernel_rfl) (by kernel_rfl)) ?_
  intro W base args ds gs before hval hW _ _
  exact row_true says (ts := [22]) (by kernel_rfl) (by rfl) (by rfl) (fun _ h => by cases h) (by rw [Try.params3]) (by kernel_rfl) rfl (by kernel_rfl) (by kernel_rfl) Try.underlying4
    (fun ds h => by match ds, h with | [_], _ => rfl) hval hW (fun E i g hg => by simp at hg)
theorem over : Rows.descReadsRow.holds Try.pinned (OpenSpec.ofChange Rows.descReadsSpec) :=
  OpenClaim.holds_of_wide 3 Try.f3 rfl rfl rfl rfl rfl rfl rfl ⟨rfl, rfl, rfl, rfl, rfl⟩ rfl rfl rfl rfl rfl (by kernel_rfl) Try.func3 (by kernel_rfl)
    (of_decide_eq_true (by kernel_rfl)) (by unfold Func.isWrapper; first | (rw [if_pos (by decide +kernel)]; kernel_rfl) | (rw [if_neg (by decide +kernel)]; exact ⟨rfl, rfl⟩))
    (fun os started H enc _ => lifted os started H enc)
theorem proved : Rows.DescReadsSaid := over
#print axioms proved
end Go.Proofs.Ytachmoamlalimaa.descReads
