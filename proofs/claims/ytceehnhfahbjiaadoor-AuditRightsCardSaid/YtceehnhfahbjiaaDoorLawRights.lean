/- AuditRights: what a user may do with a block, of any translation, by any context, is the document's: the law answers true, and the arguments read as before; the tables of the packages desc and rights read as the program lays them. -/
import Derived.Test.YtceehnhfahbjiaaDoorDesc
import Derived.Test.YtceehnhfahbjiaaDoorRows
import Derived.Test.YtceehnhfahbjiaaDoorTie
import Derived.Test.YtceehnhfahbjiaaDoorCards
import Derived.KernelRfl
namespace Go.Proofs.YtceehnhfahbjiaaDoor.con
open Go Go.Proofs.YtceehnhfahbjiaaDoorHz
set_option maxRecDepth 100000
set_option maxHeartbeats 4000000
noncomputable def arlawC : Con := ⟨3, fun args h => match args, h with
  | [.val (.agg [.int .i64 (.tm sz), .int .u32 (.tm va), .int .u64 (.tm pa), .int .i64 (.tm dm), .int .i64 (.tm ap), .int .u32 (.tm bi), .bool (.tm ng), .bool (.tm xn)]), .val (.agg [.bool (.tm on), .bool (.tm tre), .bool (.tm afe), .int .i64 (.tm cn), .bool (.tm pd0), .bool (.tm pd1), .int .u64 (.tm b0), .int .u64 (.tm b1), .int .u32 (.tm da), .int .u32 (.tm pr), .int .u32 (.tm nm), .int .i64 (.tm asd)])], [] => some [⟨none, some (0 ≤ va ∧ va < 4294967296 ∧ 0 ≤ pa ∧ pa < 18446744073709551616 ∧ 0 ≤ bi ∧ bi < 4294967296 ∧ 0 ≤ da ∧ da < 4294967296), .det (.val (.one (.bool (.lit true)))) ([])⟩]
  | _, _ => none, true⟩
theorem arlawC_p0 (sz va pa dm ap bi : Int) (ng xn : Bool) (on tre afe pd0 pd1 : Bool) (cn b0 b1 da pr nm asd : Int) (hn : 0 ≤ va ∧ va < 4294967296 ∧ 0 ≤ pa ∧ pa < 18446744073709551616 ∧ 0 ≤ bi ∧ bi < 4294967296 ∧ 0 ≤ da ∧ da < 4294967296) : ∃ anns, fnVC Tryd.prog GTab (callOf Tryd.prog GTab [arC, rarC]) anns Tryd.f3 ((Tryd.f3.body).getD .skip) [.val (.agg [.int .i64 (.tm sz), .int .u32 (.tm va), .int .u64 (.tm pa), .int .i64 (.tm dm), .int .i64 (.tm ap), .int .u32 (.tm bi), .bool (.tm ng), .bool (.tm xn)]), .val (.agg [.bool (.tm on), .bool (.tm tre), .bool (.tm afe), .int .i64 (.tm cn), .bool (.tm pd0), .bool (.tm pd1), .int .u64 (.tm b0), .int .u64 (.tm b1), .int .u32 (.tm da), .int .u32 (.tm pr), .int .u32 (.tm nm), .int .i64 (.tm asd)])] [] ⟨none, some (0 ≤ va ∧ va < 4294967296 ∧ 0 ≤ pa ∧ pa < 18446744073709551616 ∧ 0 ≤ bi ∧ bi < 4294967296 ∧ 0 ≤ da ∧ da < 4294967296), .det (.val (.one (.bool (.lit true)))) ([])⟩ := by
  refine ⟨⟨[], [], [], [], [], [], []⟩, ?_⟩
  rw [show fnVC Tryd.prog GTab (callOf Tryd.prog GTab [arC, rarC]) ⟨[], [], [], [], [], [], []⟩ Tryd.f3 ((Tryd.f3.body).getD .skip) [.val (.agg [.int .i64 (.tm sz), .int .u32 (.tm va), .int .u64 (.tm pa), .int .i64 (.tm dm), .int .i64 (.tm ap), .int .u32 (.tm bi), .bool (.tm ng), .bool (.tm xn)]), .val (.agg [.bool (.tm on), .bool (.tm tre), .bool (.tm afe), .int .i64 (.tm cn), .bool (.tm pd0), .bool (.tm pd1), .int .u64 (.tm b0), .int .u64 (.tm b1), .int .u32 (.tm da), .int .u32 (.tm pr), .int .u32 (.tm nm), .int .i64 (.tm asd)])] [] ⟨none, some (0 ≤ va ∧ va < 4294967296 ∧ 0 ≤ pa ∧ pa < 18446744073709551616 ∧ 0 ≤ bi ∧ bi < 4294967296 ∧ 0 ≤ da ∧ da < 4294967296), .det (.val (.one (.bool (.lit true)))) ([])⟩ = (((0 : Int) ≤ va ∧ va < (4294967296 : Int) ∧ (0 : Int) ≤ pa ∧ pa < (18446744073709551616 : Int) ∧ (0 : Int) ≤ bi ∧ bi < (4294967296 : Int) ∧ (0 : Int) ≤ da ∧ da < (4294967296 : Int)) ∧ ((0 : Int) ≤ va ∧ va < (4294967296 : Int) ∧ (0 : Int) ≤ pa ∧ pa < (18446744073709551616 : Int) ∧ (0 : Int) ≤ bi ∧ bi < (4294967296 : Int) ∧ (0 : Int) ≤ da ∧ da < (4294967296 : Int)) ∧ ((on && rightS (Tr.mk sz va pa dm ap bi ng xn) && mayB (Tr.mk sz va pa dm ap bi ng xn) on afe da (2 : Int)) == (on && rightS (Tr.mk sz va pa dm ap bi ng xn) && mayB (Tr.mk sz va pa dm ap bi ng xn) on afe da (2 : Int)) && ((on && rightS (Tr.mk sz va pa dm ap bi ng xn) && mayB (Tr.mk sz va pa dm ap bi ng xn) on afe da (3 : Int)) == (on && rightS (Tr.mk sz va pa dm ap bi ng xn) && mayB (Tr.mk sz va pa dm ap bi ng xn) on afe da (3 : Int)) && (on && rightS (Tr.mk sz va pa dm ap bi ng xn) && mayB (Tr.mk sz va pa dm ap bi ng xn) on afe da (1 : Int)) == (on && rightS (Tr.mk sz va pa dm ap bi ng xn) && mayB (Tr.mk sz va pa dm ap bi ng xn) on afe da (1 : Int)))) = true) from by kernel_rfl]
  exact ⟨hn, hn, by simp⟩
theorem arlawC_ch (sz va pa dm ap bi : Int) (ng xn : Bool) (on tre afe pd0 pd1 : Bool) (cn b0 b1 da pr nm asd : Int) : ∃ r ∈ ([⟨none, some (0 ≤ va ∧ va < 4294967296 ∧ 0 ≤ pa ∧ pa < 18446744073709551616 ∧ 0 ≤ bi ∧ bi < 4294967296 ∧ 0 ≤ da ∧ da < 4294967296), .det (.val (.one (.bool (.lit true)))) ([])⟩] : List Res), holdsP r.g ∧ (holdsP r.need → r.r.shaped [] ∧ ∃ anns, fnVC Tryd.prog GTab (callOf Tryd.prog GTab [arC, rarC]) anns Tryd.f3 ((Tryd.f3.body).getD .skip) [.val (.agg [.int .i64 (.tm sz), .int .u32 (.tm va), .int .u64 (.tm pa), .int .i64 (.tm dm), .int .i64 (.tm ap), .int .u32 (.tm bi), .bool (.tm ng), .bool (.tm xn)]), .val (.agg [.bool (.tm on), .bool (.tm tre), .bool (.tm afe), .int .i64 (.tm cn), .bool (.tm pd0), .bool (.tm pd1), .int .u64 (.tm b0), .int .u64 (.tm b1), .int .u32 (.tm da), .int .u32 (.tm pr), .int .u32 (.tm nm), .int .i64 (.tm asd)])] [] r) := by
  exact ⟨_, List.mem_cons_self, trivial, fun hn => ⟨trivial, arlawC_p0 sz va pa dm ap bi ng xn on tre afe pd0 pd1 cn b0 b1 da pr nm asd hn⟩⟩
theorem arlawC_ok : arlawC.ok Tryd.prog GTab := by
  refine con_ok (cs := [arC, rarC]) (body := (Tryd.f3.body).getD .skip) ?_ Tryd.func3 rfl ?_
  · intro c h
    simp only [List.mem_cons, List.not_mem_nil, or_false] at h
    rcases h with rfl | rfl
    · exact arC_ok
    · exact rarC_ok
  · intro args h l hl
    unfold arlawC at hl
    dsimp only at hl
    split at hl
    · cases hl
      exact arlawC_ch _ _ _ _ _ _ _ _ _ _ _ _ _ _ _ _ _ _ _ _
    · cases hl
end Go.Proofs.YtceehnhfahbjiaaDoor.con
namespace Go.Proofs.YtceehnhfahbjiaaDoor.auditRights
open Go Go.Proofs.YtceehnhfahbjiaaDoorHz Go.ChangeShapes Go.WideShapes Go.ChangeAt Go.RowKit
set_option maxRecDepth 100000
theorem own : ownKnob Tryd.prog.godebug = none := by kernel_rfl
def laid : List (String × DataW Unit) := [("atlas/desc.shifts", Rows.laid_atlas_desc_shifts), ("atlas/rights.plain", Rows.laid_atlas_rights_plain), ("atlas/rights.flagged", Rows.laid_atlas_rights_flagged)]
theorem tab : tables Tryd.prog laid = some con.GTab := by kernel_rfl
theorem door_met (os : Os) (args : Array Value) : laidMetH Tryd.prog laid ((World.doorLaid Tryd.prog 400 os).forCall (fun _ _ => 0) ⟨#[], args, []⟩).memory :=
  laidMetH_of_parts3 (fuel := 8) (laidMet_of_run' 8 (by kernel_rfl) (by kernel_rfl)) (by kernel_rfl) (by kernel_rfl)
theorem law : LawOk con.arlawC 3 [.agg [.int .i64, .int .u32, .int .u64, .int .i64, .int .i64, .int .u32, .bool, .bool], .agg [.bool, .bool, .bool, .int .i64, .bool, .bool, .int .u64, .int .u64, .int .u32, .int .u32, .int .u32, .int .i64]] := by
  rintro vs h ⟨ts, vs1, rfl, htr, ls, vs2, rfl, hls, rfl, rfl⟩
  obtain ⟨_, tr0, rfl, ⟨sz, rfl, _⟩, th0⟩ := con.all2_cons htr
  obtain ⟨_, tr1, rfl, ⟨va, rfl, y1⟩, th1⟩ := con.all2_cons th0
  obtain ⟨_, tr2, rfl, ⟨pa, rfl, y2⟩, th2⟩ := con.all2_cons th1
  obtain ⟨_, tr3, rfl, ⟨dm, rfl, _⟩, th3⟩ := con.all2_cons th2
  obtain ⟨_, tr4, rfl, ⟨ap, rfl, _⟩, th4⟩ := con.all2_cons th3
  obtain ⟨_, tr5, rfl, ⟨bi, rfl, y3⟩, th5⟩ := con.all2_cons th4
  obtain ⟨_, tr6, rfl, ⟨ng, rfl⟩, th6⟩ := con.all2_cons th5
  obtain ⟨_, tr7, rfl, ⟨xn, rfl⟩, th7⟩ := con.all2_cons th6
  cases con.all2_nil th7
  obtain ⟨_, xr0, rfl, ⟨on, rfl⟩, xh0⟩ := con.all2_cons hls
  obtain ⟨_, xr1, rfl, ⟨tre, rfl⟩, xh1⟩ := con.all2_cons xh0
  obtain ⟨_, xr2, rfl, ⟨afe, rfl⟩, xh2⟩ := con.all2_cons xh1
  obtain ⟨_, xr3, rfl, ⟨cn, rfl, _⟩, xh3⟩ := con.all2_cons xh2
  obtain ⟨_, xr4, rfl, ⟨pd0, rfl⟩, xh4⟩ := con.all2_cons xh3
  obtain ⟨_, xr5, rfl, ⟨pd1, rfl⟩, xh5⟩ := con.all2_cons xh4
  obtain ⟨_, xr6, rfl, ⟨b0, rfl, y7⟩, xh6⟩ := con.all2_cons xh5
  obtain ⟨_, xr7, rfl, ⟨b1, rfl, y8⟩, xh7⟩ := con.all2_cons xh6
  obtain ⟨_, xr8, rfl, ⟨da, rfl, y9⟩, xh8⟩ := con.all2_cons xh7
  obtain ⟨_, xr9, rfl, ⟨pr, rfl, _⟩, xh9⟩ := con.all2_cons xh8
  obtain ⟨_, xr10, rfl, ⟨nm, rfl, _⟩, xh10⟩ := con.all2_cons xh9
  obtain ⟨_, xr11, rfl, ⟨asd, rfl, _⟩, xh11⟩ := con.all2_cons xh10
  cases con.all2_nil xh11
  refine ⟨_, rfl, fun r hr => ?_⟩
  simp only [List.mem_cons, List.not_mem_nil, or_false] at hr
  subst hr
  exact ⟨⟨y1.1, Int.lt_of_le_of_lt y1.2 (by decide), y2.1, Int.lt_of_le_of_lt y2.2 (by decide), y3.1, Int.lt_of_le_of_lt y3.2 (by decide), y9.1, Int.lt_of_le_of_lt y9.2 (by decide)⟩, fun v objs h => h.1⟩
theorem lifted (os : Os) (started : os.Started) (H : Type) (enc : TypeId × Value → H) :
    ReturnsInHanded {} Tryd.checked os 3 .any (fun w args => (Rows.auditRightsSpec.pre enc Tryd.prog Tryd.f3 [] false w args ∧ laidMetH Tryd.prog laid w) ∧ sizedMet enc Tryd.prog Tryd.f3 (OpenSpec.ofChange Rows.auditRightsSpec) false w args)
      (Rows.auditRightsSpec.post enc Tryd.prog Tryd.f3 false true false false) := by
  refine returnsInHanded_of_change_and (C := Tryd.checked) (X := fun w _ => laidMetH Tryd.prog laid w) (fun _ _ _ hh h => h.of_heap hh) own started (by kernel_rfl) Tryd.func3
    (ChangeSpec.witness_shaped (enc := enc) (C := Tryd.checked) (os := os) (X := fun w _ => laidMetH Tryd.prog laid w) false (World.doorLaid Tryd.prog 400 os) #[.agg #[.int .i64 0, .int .u32 0, .int .u64 0, .int .i64 0, .int .i64 0, .int .u32 0, .bool false, .bool false], .agg #[.bool false, .bool false, .bool false, .int .i64 0, .bool false, .bool false, .int .u64 0, .int .u64 0, .int .u32 0, .int .u32 0, .int .u32 0, .int .i64 0]] 8 rfl (World.shaped_of_RefB (by kernel_rfl) (by kernel_rfl)) (by kernel_rfl) (by kernel_rfl) (by kernel_rfl) (door_met os _)) ?_
  intro W base args ds gs before hval hW _ hsz hL _
  exact row_true con.arlawC_ok law (ts := [27, 29]) (by rfl) (by rw [Tryd.params3]) (by kernel_rfl) rfl (by kernel_rfl) (by kernel_rfl) Tryd.underlying4
    (fun ds h => by match ds, h with | [_, _], _ => rfl) hval hW hsz (globOk_laid tab (by kernel_rfl) hL)
theorem said : Rows.AuditRightsSaid :=
  OpenClaim.holds_of_wide 3 Tryd.f3 rfl rfl rfl rfl rfl rfl rfl ⟨rfl, rfl, rfl, rfl, rfl⟩ rfl rfl rfl rfl rfl (by kernel_rfl) Tryd.func3 (by kernel_rfl)
    (of_decide_eq_true (by kernel_rfl)) (by unfold Func.isWrapper; first | (rw [if_pos (by decide +kernel)]; kernel_rfl) | (rw [if_neg (by decide +kernel)]; exact ⟨rfl, rfl⟩))
    (fun os started H enc _ => lifted os started H enc)
theorem proved : Rows.AuditRightsCardSaid :=
  Claim7.holds_tied_plain_at .later [] [.data, .data, .data] true (true, "bf51a615a3ff3741256dbd2fbd31942dcb1297f48e52f2d98b96cd8273fbaf3e") false
    said (fun _ h => by cases h) (by kernel_rfl) (fun _ h => by cases h) auditRights_row_tie rfl ⟨rfl, rfl⟩ (by kernel_rfl) rfl
    (fun f fn hf hfn => by
      obtain rfl : f = 3 := Option.some.inj ((show Tryd.prog.funcNamed "atlas/atlaslaw27.AuditRights" = some 3 by kernel_rfl).symm.trans hf) |>.symm
      obtain rfl : fn = Tryd.f3 := (Option.some.inj (Tryd.func3.symm.trans hfn)).symm
      exact ⟨by kernel_rfl, fun j t ht => by
        rw [Tryd.params3] at ht
        have hm : t ∈ [27, 29] := by simpa using Array.mem_of_getElem? ht
        have hall : ([27, 29].all fun u => !Tryd.prog.wantsStandIn u) = true := by kernel_rfl
        exact (show Tryd.prog.wantsStandIn t = false by simpa using List.all_eq_true.1 hall t hm)⟩)
    (by kernel_rfl)
#print axioms proved
end Go.Proofs.YtceehnhfahbjiaaDoor.auditRights
