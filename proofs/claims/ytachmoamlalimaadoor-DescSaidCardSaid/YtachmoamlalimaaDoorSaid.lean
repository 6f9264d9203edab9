/- DescSaid: whatever the entry, where Encode writes it, Decode of that word is that entry. The answer is true, and the arguments read as before; the tables of package desc read as the program lays them. -/
import Derived.Test.YtachmoamlalimaaDoorCon
namespace Go.Proofs.YtachmoamlalimaaDoor.descSaid
open Go Go.Proofs.YtachmoamlalimaaDoorSx Go.ChangeShapes Go.WideShapes Go.ChangeAt Go.RowKit
set_option maxRecDepth 100000
theorem low : Holds Tryd.prog con.G1 9 [.val (.agg [.int .i64 (.var 0), .int .u64 (.var 1), .int .i64 (.var 2), .bool (.var 3), .int .i64 (.var 4), .int .u32 (.var 5), .bool (.var 6), .bool (.var 7)])] [(-9223372036854775808, -1), (0, 18446744073709551615), (-9223372036854775808, 9223372036854775807), (0, 1), (-9223372036854775808, 9223372036854775807), (0, 4294967295), (0, 1), (0, 1)] := of_says con.flat1 con.lit1 con.cs1 (cs := con.cs) (fuel := 100) (d := 20) (by kernel_rfl)
theorem at0 : Holds Tryd.prog con.G1 9 [.val (.agg [.int .i64 (.lit 0), .int .u64 (.var 1), .int .i64 (.var 2), .bool (.var 3), .int .i64 (.var 4), .int .u32 (.var 5), .bool (.var 6), .bool (.var 7)])] [(0, 0), (0, 18446744073709551615), (-9223372036854775808, 9223372036854775807), (0, 1), (-9223372036854775808, 9223372036854775807), (0, 4294967295), (0, 1), (0, 1)] := of_says con.flat1 con.lit1 con.cs1 (cs := con.cs) (fuel := 100) (d := 20) (by kernel_rfl)
theorem at1 : Holds Tryd.prog con.G1 9 [.val (.agg [.int .i64 (.lit 1), .int .u64 (.var 1), .int .i64 (.var 2), .bool (.var 3), .int .i64 (.var 4), .int .u32 (.var 5), .bool (.var 6), .bool (.var 7)])] [(1, 1), (0, 18446744073709551615), (-9223372036854775808, 9223372036854775807), (0, 1), (-9223372036854775808, 9223372036854775807), (0, 4294967295), (0, 1), (0, 1)] := of_says con.flat1 con.lit1 con.cs1 (cs := con.cs) (fuel := 100) (d := 20) (by kernel_rfl)
theorem at2 : Holds Tryd.prog con.G1 9 [.val (.agg [.int .i64 (.lit 2), .int .u64 (.var 1), .int .i64 (.var 2), .bool (.var 3), .int .i64 (.var 4), .int .u32 (.var 5), .bool (.var 6), .bool (.var 7)])] [(2, 2), (0, 18446744073709551615), (-9223372036854775808, 9223372036854775807), (0, 1), (-9223372036854775808, 9223372036854775807), (0, 4294967295), (0, 1), (0, 1)] := of_says con.flat1 con.lit1 con.cs1 (cs := con.cs) (fuel := 100) (d := 20) (by kernel_rfl)
theorem at3 : Holds Tryd.prog con.G1 9 [.val (.agg [.int .i64 (.lit 3), .int .u64 (.var 1), .int .i64 (.var 2), .bool (.var 3), .int .i64 (.var 4), .int .u32 (.var 5), .bool (.var 6), .bool (.var 7)])] [(3, 3), (0, 18446744073709551615), (-9223372036854775808, 9223372036854775807), (0, 1), (-9223372036854775808, 9223372036854775807), (0, 4294967295), (0, 1), (0, 1)] := of_says con.flat1 con.lit1 con.cs1 (cs := con.cs) (fuel := 100) (d := 20) (by kernel_rfl)
theorem at4 : Holds Tryd.prog con.G1 9 [.val (.agg [.int .i64 (.lit 4), .int .u64 (.var 1), .int .i64 (.var 2), .bool (.var 3), .int .i64 (.var 4), .int .u32 (.var 5), .bool (.var 6), .bool (.var 7)])] [(4, 4), (0, 18446744073709551615), (-9223372036854775808, 9223372036854775807), (0, 1), (-9223372036854775808, 9223372036854775807), (0, 4294967295), (0, 1), (0, 1)] := of_says con.flat1 con.lit1 con.cs1 (cs := con.cs) (fuel := 100) (d := 20) (by kernel_rfl)
theorem at5 : Holds Tryd.prog con.G1 9 [.val (.agg [.int .i64 (.lit 5), .int .u64 (.var 1), .int .i64 (.var 2), .bool (.var 3), .int .i64 (.var 4), .int .u32 (.var 5), .bool (.var 6), .bool (.var 7)])] [(5, 5), (0, 18446744073709551615), (-9223372036854775808, 9223372036854775807), (0, 1), (-9223372036854775808, 9223372036854775807), (0, 4294967295), (0, 1), (0, 1)] := of_says con.flat1 con.lit1 con.cs1 (cs := con.cs) (fuel := 100) (d := 20) (by kernel_rfl)
theorem high : Holds Tryd.prog con.G1 9 [.val (.agg [.int .i64 (.var 0), .int .u64 (.var 1), .int .i64 (.var 2), .bool (.var 3), .int .i64 (.var 4), .int .u32 (.var 5), .bool (.var 6), .bool (.var 7)])] [(6, 9223372036854775807), (0, 18446744073709551615), (-9223372036854775808, 9223372036854775807), (0, 1), (-9223372036854775808, 9223372036854775807), (0, 4294967295), (0, 1), (0, 1)] := of_says con.flat1 con.lit1 con.cs1 (cs := con.cs) (fuel := 100) (d := 20) (by kernel_rfl)
theorem holds : Holds Tryd.prog con.G1 9 [.val (.agg [.int .i64 (.var 0), .int .u64 (.var 1), .int .i64 (.var 2), .bool (.var 3), .int .i64 (.var 4), .int .u32 (.var 5), .bool (.var 6), .bool (.var 7)])] [(-9223372036854775808, 9223372036854775807), (0, 18446744073709551615), (-9223372036854775808, 9223372036854775807), (0, 1), (-9223372036854775808, 9223372036854775807), (0, 4294967295), (0, 1), (0, 1)] := Holds.cut 0 0 rfl low (Holds.cut 0 1 rfl (Holds.pin 0 0 rfl at0) (Holds.cut 0 2 rfl (Holds.pin 0 1 rfl at1) (Holds.cut 0 3 rfl (Holds.pin 0 2 rfl at2) (Holds.cut 0 4 rfl (Holds.pin 0 3 rfl at3) (Holds.cut 0 5 rfl (Holds.pin 0 4 rfl at4) (Holds.cut 0 6 rfl (Holds.pin 0 5 rfl at5) high))))))
theorem lifted (os : Os) (started : os.Started) (H : Type) (enc : TypeId × Value → H) :
    ReturnsInHanded {} Tryd.checked os 9 .any (fun w args => (Rows.descSaidSpec.pre enc Tryd.prog Tryd.f9 [] false w args ∧ laidMetH Tryd.prog con.laid1 w) ∧ sizedMet enc Tryd.prog Tryd.f9 (OpenSpec.ofChange Rows.descSaidSpec) false w args)
      (Rows.descSaidSpec.post enc Tryd.prog Tryd.f9 false true false false) := by
  refine returnsInHanded_of_change_and (C := Tryd.checked) (X := fun w _ => laidMetH Tryd.prog con.laid1 w) (fun _ _ _ hh h => h.of_heap hh) con.own started (by kernel_rfl) Tryd.func9
    (ChangeSpec.witness_shaped (enc := enc) (C := Tryd.checked) (os := os) (X := fun w _ => laidMetH Tryd.prog con.laid1 w) false (World.doorLaid Tryd.prog 400 os) #[.agg #[.int .i64 0, .int .u64 0, .int .i64 0, .bool false, .int .i64 0, .int .u32 0, .bool false, .bool false]] 8 rfl (World.shaped_of_RefB (by kernel_rfl) (by kernel_rfl)) (by kernel_rfl) (by kernel_rfl) (by kernel_rfl) (con.door_met1 os _)) ?_
  intro W base args ds gs before hval hW _ _ hL _
  exact row_true holds (ts := [32]) (by kernel_rfl) (by rw [Tryd.params9]) (by kernel_rfl) rfl (by kernel_rfl) (by kernel_rfl) Tryd.underlying4
    (fun ds h => by match ds, h with | [_], _ => rfl) hval hW (fun E => globOk_laid E con.tab1 (by kernel_rfl) hL)
theorem said : Rows.DescSaidSaid :=
  OpenClaim.holds_of_wide 9 Tryd.f9 rfl rfl rfl rfl rfl rfl rfl ⟨rfl, rfl, rfl, rfl, rfl⟩ rfl rfl rfl rfl rfl (by kernel_rfl) Tryd.func9 (by kernel_rfl)
    (of_decide_eq_true (by kernel_rfl)) (by unfold Func.isWrapper; first | (rw [if_pos (by decide +kernel)]; kernel_rfl) | (rw [if_neg (by decide +kernel)]; exact ⟨rfl, rfl⟩))
    (fun os started H enc _ => lifted os started H enc)
theorem proved : Rows.DescSaidCardSaid :=
  Claim7.holds_tied_plain_at .later [] [.data] true (true, "81d1e0da93be1f6c3346bb5ee32360dd495f9b336be05090c411d500f07f9a74") false
    said (fun _ h => by cases h) (by kernel_rfl) (fun _ h => by cases h) descSaid_row_tie rfl ⟨rfl, rfl⟩ (by kernel_rfl) rfl
    (fun f fn hf hfn => by
      obtain rfl : f = 9 := Option.some.inj ((show Tryd.prog.funcNamed "atlas/atlaslaw05.DescSaid" = some 9 by kernel_rfl).symm.trans hf) |>.symm
      obtain rfl : fn = Tryd.f9 := (Option.some.inj (Tryd.func9.symm.trans hfn)).symm
      exact ⟨by kernel_rfl, fun j t ht => by
        rw [Tryd.params9] at ht
        have hm : t ∈ [32] := by simpa using Array.mem_of_getElem? ht
        have hall : ([32].all fun u => !Tryd.prog.wantsStandIn u) = true := by kernel_rfl
        exact (show Tryd.prog.wantsStandIn t = false by simpa using List.all_eq_true.1 hall t hm)⟩)
    (by kernel_rfl)
#print axioms proved
end Go.Proofs.YtachmoamlalimaaDoor.descSaid
