/- DescFlip: a bit that the tables name bears on what is said, any other one does not. The answer is true, and the arguments read as before; the tables of package desc read as the program lays them. -/
import Derived.Test.YtachmoamlalimaaDoorFlipA
import Derived.Test.YtachmoamlalimaaDoorFlipB
namespace Go.Proofs.YtachmoamlalimaaDoor.descFlip
open Go Go.Proofs.YtachmoamlalimaaDoorSx Go.ChangeShapes Go.WideShapes Go.ChangeAt Go.RowKit
set_option maxRecDepth 100000
theorem holds : Holds Tryd.prog con.G1 7 [.val (.one (.int .u32 (.var 0))), .val (.one (.int .i64 (.var 1)))] [(0, 4294967295), (-9223372036854775808, 9223372036854775807)] := Holds.part 1 32 (by decide) (p := (-9223372036854775808, 9223372036854775807)) rfl (fun a h0 h1 => by
  obtain ⟨n, rfl⟩ : ∃ n : Nat, a = (n : Int) := ⟨a.toNat, by omega⟩
  have hn : n < 32 := by omega
  clear h0 h1
  match n, hn with
  | 0, _ => exact at0
  | 1, _ => exact at1
  | 2, _ => exact at2
  | 3, _ => exact at3
  | 4, _ => exact at4
  | 5, _ => exact at5
  | 6, _ => exact at6
  | 7, _ => exact at7
  | 8, _ => exact at8
  | 9, _ => exact at9
  | 10, _ => exact at10
  | 11, _ => exact at11
  | 12, _ => exact at12
  | 13, _ => exact at13
  | 14, _ => exact at14
  | 15, _ => exact at15
  | 16, _ => exact at16
  | 17, _ => exact at17
  | 18, _ => exact at18
  | 19, _ => exact at19
  | 20, _ => exact at20
  | 21, _ => exact at21
  | 22, _ => exact at22
  | 23, _ => exact at23
  | 24, _ => exact at24
  | 25, _ => exact at25
  | 26, _ => exact at26
  | 27, _ => exact at27
  | 28, _ => exact at28
  | 29, _ => exact at29
  | 30, _ => exact at30
  | 31, _ => exact at31
  | n + 32, h => omega)
theorem lifted (os : Os) (started : os.Started) (H : Type) (enc : TypeId × Value → H) :
    ReturnsInHanded {} Tryd.checked os 7 .any (fun w args => (Rows.descFlipSpec.pre enc Tryd.prog Tryd.f7 [] false w args ∧ laidMetH Tryd.prog con.laid1 w) ∧ sizedMet enc Tryd.prog Tryd.f7 (OpenSpec.ofChange Rows.descFlipSpec) false w args)
      (Rows.descFlipSpec.post enc Tryd.prog Tryd.f7 false true false false) := by
  refine returnsInHanded_of_change_and (C := Tryd.checked) (X := fun w _ => laidMetH Tryd.prog con.laid1 w) (fun _ _ _ hh h => h.of_heap hh) con.own started (by kernel_rfl) Tryd.func7
    (ChangeSpec.witness_shaped (enc := enc) (C := Tryd.checked) (os := os) (X := fun w _ => laidMetH Tryd.prog con.laid1 w) false (World.doorLaid Tryd.prog 400 os) #[.int .u32 0, .int .i64 0] 8 rfl (World.shaped_of_RefB (by kernel_rfl) (by kernel_rfl)) (by kernel_rfl) (by kernel_rfl) (by kernel_rfl) (con.door_met1 os _)) ?_
  intro W base args ds gs before hval hW _ _ hL _
  exact row_true holds (ts := [26, 3]) (by kernel_rfl) (by rw [Tryd.params7]) (by kernel_rfl) rfl (by kernel_rfl) (by kernel_rfl) Tryd.underlying4
    (fun ds h => by match ds, h with | [_, _], _ => rfl) hval hW (fun E => globOk_laid E con.tab1 (by kernel_rfl) hL)
theorem said : Rows.DescFlipSaid :=
  OpenClaim.holds_of_wide 7 Tryd.f7 rfl rfl rfl rfl rfl rfl rfl ⟨rfl, rfl, rfl, rfl, rfl⟩ rfl rfl rfl rfl rfl (by kernel_rfl) Tryd.func7 (by kernel_rfl)
    (of_decide_eq_true (by kernel_rfl)) (by unfold Func.isWrapper; first | (rw [if_pos (by decide +kernel)]; kernel_rfl) | (rw [if_neg (by decide +kernel)]; exact ⟨rfl, rfl⟩))
    (fun os started H enc _ => lifted os started H enc)
theorem proved : Rows.DescFlipCardSaid :=
  Claim7.holds_tied_plain_at .later [] [.data] true (true, "81d1e0da93be1f6c3346bb5ee32360dd495f9b336be05090c411d500f07f9a74") false
    said (fun _ h => by cases h) (by kernel_rfl) (fun _ h => by cases h) descFlip_row_tie rfl ⟨rfl, rfl⟩ (by kernel_rfl) rfl
    (fun f fn hf hfn => by
      obtain rfl : f = 7 := Option.some.inj ((show Tryd.prog.funcNamed "atlas/atlaslaw05.DescFlip" = some 7 by kernel_rfl).symm.trans hf) |>.symm
      obtain rfl : fn = Tryd.f7 := (Option.some.inj (Tryd.func7.symm.trans hfn)).symm
      exact ⟨by kernel_rfl, fun j t ht => by
        rw [Tryd.params7] at ht
        have hm : t ∈ [26, 3] := by simpa using Array.mem_of_getElem? ht
        have hall : ([26, 3].all fun u => !Tryd.prog.wantsStandIn u) = true := by kernel_rfl
        exact (show Tryd.prog.wantsStandIn t = false by simpa using List.all_eq_true.1 hall t hm)⟩)
    (by kernel_rfl)
#print axioms proved
end Go.Proofs.YtachmoamlalimaaDoor.descFlip
