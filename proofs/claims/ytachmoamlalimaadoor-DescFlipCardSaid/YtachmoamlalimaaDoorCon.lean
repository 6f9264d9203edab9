/- The tables of the desc laws as known cells, and what the reference's power is at the numbers that are asked. It is about the program of this seat. -/
import Derived.Test.YtachmoamlalimaaDoorTie
import Derived.Test.YtachmoamlalimaaDoorCards
import Derived.Test.YtachmoamlalimaaDoorSxThree
import Derived.KernelRfl
namespace Go.Proofs.YtachmoamlalimaaDoor.con
open Go Go.Proofs.YtachmoamlalimaaDoorSx
set_option maxRecDepth 100000
def G1 : List (Nat × List L) := [(0, [.int .u64 (.lit 0), .int .u64 (.lit 12), .int .u64 (.lit 16), .int .u64 (.lit 20), .int .u64 (.lit 24)])]
def G2 : List (Nat × List L) := [(0, [.int .u64 (.lit 0), .int .u64 (.lit 12), .int .u64 (.lit 16), .int .u64 (.lit 20), .int .u64 (.lit 24)]), (1, [.int .i64 (.lit 0), .int .i64 (.lit 5), .int .i64 (.lit 4), .int .i64 (.lit 2), .int .i64 (.lit 3)])]
def laid1 : List (String × DataW Unit) := [("atlas/desc.shifts", Rows.laid_atlas_desc_shifts)]
def laid2 : List (String × DataW Unit) := [("atlas/desc.shifts", Rows.laid_atlas_desc_shifts), ("atlas/desc.kinds", Rows.laid_atlas_desc_kinds)]
theorem own : ownKnob Tryd.prog.godebug = none := by kernel_rfl
theorem tab1 : tables Tryd.prog laid1 = some G1 := by kernel_rfl
theorem flat1 : nodupG G1 = true := by kernel_rfl
theorem lit1 : litG G1 = true := by kernel_rfl
theorem door_met1 (os : Os) (args : Array Value) : laidMetH Tryd.prog laid1 ((World.doorLaid Tryd.prog 400 os).forCall (fun _ _ => 0) ⟨#[], args, []⟩).memory :=
  laidMetH_of_parts3 (fuel := 8) (laidMet_of_run' 8 (by kernel_rfl) (by kernel_rfl)) (by kernel_rfl) (by kernel_rfl)
theorem tab2 : tables Tryd.prog laid2 = some G2 := by kernel_rfl
theorem flat2 : nodupG G2 = true := by kernel_rfl
theorem lit2 : litG G2 = true := by kernel_rfl
theorem door_met2 (os : Os) (args : Array Value) : laidMetH Tryd.prog laid2 ((World.doorLaid Tryd.prog 400 os).forCall (fun _ _ => 0) ⟨#[], args, []⟩).memory :=
  laidMetH_of_parts3 (fuel := 8) (laidMet_of_run' 8 (by kernel_rfl) (by kernel_rfl)) (by kernel_rfl) (by kernel_rfl)
def pw (n m : Int) : Con := ⟨32, [.val (.one (.int .i64 (.lit n)))], [], [([], .val (.one (.int .u64 (.lit m))))]⟩
def alive : Con := ⟨25, [], [], [([], .val (.one (.bool (.lit 1))))]⟩
theorem pw1_10 : (pw 10 1024).ok Tryd.prog G1 := con_ok flat1 lit1 (cs := []) (fun _ h => by cases h) (fuel := 100) (d := 20) _ rfl (by kernel_rfl)
theorem pw1_12 : (pw 12 4096).ok Tryd.prog G1 := con_ok flat1 lit1 (cs := []) (fun _ h => by cases h) (fuel := 100) (d := 20) _ rfl (by kernel_rfl)
theorem pw1_16 : (pw 16 65536).ok Tryd.prog G1 := con_ok flat1 lit1 (cs := []) (fun _ h => by cases h) (fuel := 100) (d := 20) _ rfl (by kernel_rfl)
theorem pw1_20 : (pw 20 1048576).ok Tryd.prog G1 := con_ok flat1 lit1 (cs := []) (fun _ h => by cases h) (fuel := 100) (d := 20) _ rfl (by kernel_rfl)
theorem pw1_24 : (pw 24 16777216).ok Tryd.prog G1 := con_ok flat1 lit1 (cs := []) (fun _ h => by cases h) (fuel := 100) (d := 20) _ rfl (by kernel_rfl)
theorem pw1_32 : (pw 32 4294967296).ok Tryd.prog G1 := con_ok flat1 lit1 (cs := []) (fun _ h => by cases h) (fuel := 100) (d := 20) _ rfl (by kernel_rfl)
theorem pw1_36 : (pw 36 68719476736).ok Tryd.prog G1 := con_ok flat1 lit1 (cs := []) (fun _ h => by cases h) (fuel := 100) (d := 20) _ rfl (by kernel_rfl)
theorem pw1_40 : (pw 40 1099511627776).ok Tryd.prog G1 := con_ok flat1 lit1 (cs := []) (fun _ h => by cases h) (fuel := 100) (d := 20) _ rfl (by kernel_rfl)
theorem alive1 : alive.ok Tryd.prog G1 := con_ok flat1 lit1 (cs := []) (fun _ h => by cases h) (fuel := 100) (d := 20) _ rfl (by kernel_rfl)
theorem pw2_10 : (pw 10 1024).ok Tryd.prog G2 := con_ok flat2 lit2 (cs := []) (fun _ h => by cases h) (fuel := 100) (d := 20) _ rfl (by kernel_rfl)
theorem pw2_12 : (pw 12 4096).ok Tryd.prog G2 := con_ok flat2 lit2 (cs := []) (fun _ h => by cases h) (fuel := 100) (d := 20) _ rfl (by kernel_rfl)
theorem pw2_16 : (pw 16 65536).ok Tryd.prog G2 := con_ok flat2 lit2 (cs := []) (fun _ h => by cases h) (fuel := 100) (d := 20) _ rfl (by kernel_rfl)
theorem pw2_20 : (pw 20 1048576).ok Tryd.prog G2 := con_ok flat2 lit2 (cs := []) (fun _ h => by cases h) (fuel := 100) (d := 20) _ rfl (by kernel_rfl)
theorem pw2_24 : (pw 24 16777216).ok Tryd.prog G2 := con_ok flat2 lit2 (cs := []) (fun _ h => by cases h) (fuel := 100) (d := 20) _ rfl (by kernel_rfl)
theorem pw2_32 : (pw 32 4294967296).ok Tryd.prog G2 := con_ok flat2 lit2 (cs := []) (fun _ h => by cases h) (fuel := 100) (d := 20) _ rfl (by kernel_rfl)
theorem pw2_36 : (pw 36 68719476736).ok Tryd.prog G2 := con_ok flat2 lit2 (cs := []) (fun _ h => by cases h) (fuel := 100) (d := 20) _ rfl (by kernel_rfl)
theorem pw2_40 : (pw 40 1099511627776).ok Tryd.prog G2 := con_ok flat2 lit2 (cs := []) (fun _ h => by cases h) (fuel := 100) (d := 20) _ rfl (by kernel_rfl)
theorem alive2 : alive.ok Tryd.prog G2 := con_ok flat2 lit2 (cs := []) (fun _ h => by cases h) (fuel := 100) (d := 20) _ rfl (by kernel_rfl)
def cs : List Con := [pw 10 1024, pw 12 4096, pw 16 65536, pw 20 1048576, pw 24 16777216, pw 32 4294967296, pw 36 68719476736, pw 40 1099511627776, alive]
theorem cs1 : ∀ c ∈ cs, c.ok Tryd.prog G1 := by
  intro c h
  simp only [cs, List.mem_cons, List.not_mem_nil, or_false] at h
  rcases h with rfl | rfl | rfl | rfl | rfl | rfl | rfl | rfl | rfl
  · exact pw1_10
  · exact pw1_12
  · exact pw1_16
  · exact pw1_20
  · exact pw1_24
  · exact pw1_32
  · exact pw1_36
  · exact pw1_40
  · exact alive1
theorem cs2 : ∀ c ∈ cs, c.ok Tryd.prog G2 := by
  intro c h
  simp only [cs, List.mem_cons, List.not_mem_nil, or_false] at h
  rcases h with rfl | rfl | rfl | rfl | rfl | rfl | rfl | rfl | rfl
  · exact pw2_10
  · exact pw2_12
  · exact pw2_16
  · exact pw2_20
  · exact pw2_24
  · exact pw2_32
  · exact pw2_36
  · exact pw2_40
  · exact alive2
end Go.Proofs.YtachmoamlalimaaDoor.con
