/- DescBlock: whatever the word of a block and the addresses: its translation is right, holds the address, and is the same for each other address of it. The answer is true, and the arguments read as before; the tables of package desc read as the program lays them. -/
import Derived.Test.YtachmoamlalimaaDoorCon
namespace Go.Proofs.YtachmoamlalimaaDoor.descBlock
open Go Go.Proofs.YtachmoamlalimaaDoorSx Go.ChangeShapes Go.WideShapes Go.ChangeAt Go.RowKit
set_option maxRecDepth 100000
theorem low : Holds Tryd.prog con.G2 10 [.val (.one (.int .u32 (.var 0))), .val (.one (.bool (.var 1))), .val (.one (.int .i64 (.var 2))), .val (.one (.int .u32 (.var 3))), .val (.one (.int .u32 (.var 4)))] [(0, 4294967295), (0, 0), (-9223372036854775808, 9223372036854775807), (0, 4294967295), (0, 4294967295)] := of_says con.flat2 con.lit2 con.cs2 (cs := con.cs) (fuel := 100) (d := 20) (by kernel_rfl)
theorem high : Holds Tryd.prog con.G2 10 [.val (.one (.int .u32 (.var 0))), .val (.one (.bool (.var 1))), .val (.one (.int .i64 (.var 2))), .val (.one (.int .u32 (.var 3))), .val (.one (.int .u32 (.var 4)))] [(0, 4294967295), (1, 1), (-9223372036854775808, 9223372036854775807), (0, 4294967295), (0, 4294967295)] := of_says con.flat2 con.lit2 con.cs2 (cs := con.cs) (fuel := 100) (d := 20) (by kernel_rfl)
theorem holds : Holds Tryd.prog con.G2 10 [.val (.one (.int .u32 (.var 0))), .val (.one (.bool (.var 1))), .val (.one (.int .i64 (.var 2))), .val (.one (.int .u32 (.var 3))), .val (.one (.int .u32 (.var 4)))] [(0, 4294967295), (0, 1), (-9223372036854775808, 9223372036854775807), (0, 4294967295), (0, 4294967295)] := Holds.cut 1 1 rfl low high
theorem lifted (os : Os) (started : os.Started) (H : Type) (enc : TypeId × Value → H) :
    ReturnsInHanded {} Tryd.checked os 10 .any (fun w args => (Rows.descBlockSpec.pre enc Tryd.prog Tryd.f10 [] false w args ∧ laidMetH Tryd.prog con.laid2 w) ∧ sizedMet enc Tryd.prog Tryd.f10 (OpenSpec.ofChange Rows.descBlockSpec) false w args)
      (Rows.descBlockSpec.post enc Tryd.prog Tryd.f10 false true false false) := by
  refine returnsInHanded_of_change_and (C := Tryd.checked) (X := fun w _ => laidMetH Tryd.prog con.laid2 w) (fun _ _ _ hh h => h.of_heap hh) con.own started (by kernel_rfl) Tryd.func10
    (ChangeSpec.witness_shaped (enc := enc) (C := Tryd.checked) (os := os) (X := fun w _ => laidMetH Tryd.prog con.laid2 w) false (World.doorLaid Tryd.prog 400 os) #[.int .u32 0, .bool false, .int .i64 0, .int .u32 0, .int .u32 0] 8 rfl (World.shaped_of_RefB (by kernel_rfl) (by kernel_rfl)) (by kernel_rfl) (by kernel_rfl) (by kernel_rfl) (con.door_met2 os _)) ?_
  intro W base args ds gs before hval hW _ _ hL _
  exact row_true holds (ts := [26, 4, 3, 26, 26]) (by kernel_rfl) (by rw [Tryd.params10]) (by kernel_rfl) rfl (by kernel_rfl) (by kernel_rfl) Tryd.underlying4
    (fun ds h => by match ds, h with | [_, _, _, _, _], _ => rfl) hval hW (fun E => globOk_laid E con.tab2 (by kernel_rfl) hL)
theorem said : Rows.DescBlockSaid :=
  OpenClaim.holds_of_wide 10 Tryd.f10 rfl rfl rfl rfl rfl rfl rfl ⟨rfl, rfl, rfl, rfl, rfl⟩ rfl rfl rfl rfl rfl (by kernel_rfl) Tryd.func10 (by kernel_rfl)
    (of_decide_eq_true (by kernel_rfl)) (by unfold Func.isWrapper; first | (rw [if_pos (by decide +kernel)]; kernel_rfl) | (rw [if_neg (by decide +kernel)]; exact ⟨rfl, rfl⟩))
    (fun os started H enc _ => lifted os started H enc)
theorem proved : Rows.DescBlockCardSaid :=
  Claim7.holds_tied_plain_at .later [] [.data, .data] true (true, "81d1e0da93be1f6c3346bb5ee32360dd495f9b336be05090c411d500f07f9a74") false
    said (fun _ h => by cases h) (by kernel_rfl) (fun _ h => by cases h) descBlock_row_tie rfl ⟨rfl, rfl⟩ (by kernel_rfl) rfl
    (fun f fn hf hfn => by
      obtain rfl : f = 10 := Option.some.inj ((show Tryd.prog.funcNamed "atlas/atlaslaw05.DescBlock" = some 10 by kernel_rfl).symm.trans hf) |>.symm
      obtain rfl : fn = Tryd.f10 := (Option.some.inj (Tryd.func10.symm.trans hfn)).symm
      exact ⟨by kernel_rfl, fun j t ht => by
        rw [Tryd.params10] at ht
        have hm : t ∈ [26, 4, 3, 26, 26] := by simpa using Array.mem_of_getElem? ht
        have hall : ([26, 4, 3, 26, 26].all fun u => !Tryd.prog.wantsStandIn u) = true := by kernel_rfl
        exact (show Tryd.prog.wantsStandIn t = false by simpa using List.all_eq_true.1 hall t hm)⟩)
    (by kernel_rfl)
#print axioms proved
end Go.Proofs.YtachmoamlalimaaDoor.descBlock
