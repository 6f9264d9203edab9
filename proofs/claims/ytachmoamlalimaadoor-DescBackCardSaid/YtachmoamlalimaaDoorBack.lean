/- DescBack: whatever the word, what it says can be said, and the word that says it is that word without the bits that say nothing. The answer is true, and the arguments read as before; the tables of package desc read as the program lays them. -/
import Derived.Test.YtachmoamlalimaaDoorCon
namespace Go.Proofs.YtachmoamlalimaaDoor.descBack
open Go Go.Proofs.YtachmoamlalimaaDoorSx Go.ChangeShapes Go.WideShapes Go.ChangeAt Go.RowKit
set_option maxRecDepth 100000
theorem holds : Holds Tryd.prog con.G1 8 [.val (.one (.int .u32 (.var 0)))] [(0, 4294967295)] := of_says con.flat1 con.lit1 con.cs1 (cs := con.cs) (fuel := 100) (d := 20) (by kernel_rfl)
theorem lifted (os : Os) (started : os.Started) (H : Type) (enc : TypeId × Value → H) :
    ReturnsInHanded {} Tryd.checked os 8 .any (fun w args => (Rows.descBackSpec.pre enc Tryd.prog Tryd.f8 [] false w args ∧ laidMetH Tryd.prog con.laid1 w) ∧ sizedMet enc Tryd.prog Tryd.f8 (OpenSpec.ofChange Rows.descBackSpec) false w args)
      (Rows.descBackSpec.post enc Tryd.prog Tryd.f8 false true false false) := by
  refine returnsInHanded_of_change_and (C := Tryd.checked) (X := fun w _ => laidMetH Tryd.prog con.laid1 w) (fun _ _ _ hh h => h.of_heap hh) con.own started (by kernel_rfl) Tryd.func8
    (ChangeSpec.witness_shaped (enc := enc) (C := Tryd.checked) (os := os) (X := fun w _ => laidMetH Tryd.prog con.laid1 w) false (World.doorLaid Tryd.prog 400 os) #[.int .u32 0] 8 rfl (World.shaped_of_RefB (by kernel_rfl) (by kernel_rfl)) (by kernel_rfl) (by kernel_rfl) (by kernel_rfl) (con.door_met1 os _)) ?_
  intro W base args ds gs before hval hW _ _ hL _
  exact row_true holds (ts := [26]) (by kernel_rfl) (by rw [Tryd.params8]) (by kernel_rfl) rfl (by kernel_rfl) (by kernel_rfl) Tryd.underlying4
    (fun ds h => by match ds, h with | [_], _ => rfl) hval hW (fun E => globOk_laid E con.tab1 (by kernel_rfl) hL)
theorem said : Rows.DescBackSaid :=
  OpenClaim.holds_of_wide 8 Tryd.f8 rfl rfl rfl rfl rfl rfl rfl ⟨rfl, rfl, rfl, rfl, rfl⟩ rfl rfl rfl rfl rfl (by kernel_rfl) Tryd.func8 (by kernel_rfl)
    (of_decide_eq_true (by kernel_rfl)) (by unfold Func.isWrapper; first | (rw [if_pos (by decide +kernel)]; kernel_rfl) | (rw [if_neg (by decide +kernel)]; exact ⟨rfl, rfl⟩))
    (fun os started H enc _ => lifted os started H enc)
theorem proved : Rows.DescBackCardSaid :=
  Claim7.holds_tied_plain_at .later [] [.data] true (true, "81d1e0da93be1f6c3346bb5ee32360dd495f9b336be05090c411d500f07f9a74") false
    said (fun _ h => by cases h) (by kernel_rfl) (fun _ h => by cases h) descBack_row_tie rfl ⟨rfl, rfl⟩ (by kernel_rfl) rfl
    (fun f fn hf hfn => by
      obtain rfl : f = 8 := Option.some.inj ((show Tryd.prog.funcNamed "atlas/atlaslaw05.DescBack" = some 8 by kernel_rfl).symm.trans hf) |>.symm
      obtain rfl : fn = Tryd.f8 := (Option.some.inj (Tryd.func8.symm.trans hfn)).symm
      exact ⟨by kernel_rfl, fun j t ht => by
        rw [Tryd.params8] at ht
        have hm : t ∈ [26] := by simpa using Array.mem_of_getElem? ht
        have hall : ([26].all fun u => !Tryd.prog.wantsStandIn u) = true := by kernel_rfl
        exact (show Tryd.prog.wantsStandIn t = false by simpa using List.all_eq_true.1 hall t hm)⟩)
    (by kernel_rfl)
#print axioms proved
end Go.Proofs.YtachmoamlalimaaDoor.descBack
