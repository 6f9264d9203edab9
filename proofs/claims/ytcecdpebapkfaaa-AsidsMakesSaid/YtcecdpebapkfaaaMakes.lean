/- AsidsMakes: New of any number gives a book just where the document does, and it begins as the document says: the law answers true, and the argument reads as before. -/
import Derived.Test.YtcecdpebapkfaaaPlayB
import Derived.Test.YtcecdpebapkfaaaRows
import Derived.KernelRfl
namespace Go.Proofs.Ytcecdpebapkfaaa.con
open Go Go.Proofs.YtcecdpebapkfaaaHy
set_option maxRecDepth 100000
set_option maxHeartbeats 4000000
noncomputable def makesC : Con := ⟨5, fun args h => match args, h with
  | [.val (.one (.int .i64 (.tm last)))], [] => some [⟨some (last < 1 ∨ 255 < last), none, .val (.one (.bool (.lit true))), []⟩, ⟨some (¬ (last < 1 ∨ 255 < last)), none, .val (.one (.bool (.lit true))), []⟩]
  | _, _ => none, false⟩
theorem makesC_p0 (last : Int) (hg : last < 1 ∨ 255 < last) : ∃ anns, fnVC Try.prog [] (callOf Try.prog [] [bothC, stepC]) anns Try.f5 ((Try.f5.body).getD .skip) [.val (.one (.int .i64 (.tm last)))] [] ⟨some (last < 1 ∨ 255 < last), none, .val (.one (.bool (.lit true))), []⟩ := by
  refine ⟨⟨[], []⟩, ?_⟩
  rw [show fnVC Try.prog [] (callOf Try.prog [] [bothC, stepC]) ⟨[], []⟩ Try.f5 ((Try.f5.body).getD .skip) [.val (.one (.int .i64 (.tm last)))] [] ⟨some (last < 1 ∨ 255 < last), none, .val (.one (.bool (.lit true))), []⟩ = ((last < (1 : Int) ∨ (255 : Int) < last → True) ∧ ((last < (1 : Int) ∨ (255 : Int) < last → False) → (∃ (c : Nat), c < (8796093021953 : Nat) ∧ Sim { last := last, gen := (1 : Int), act := (0 : Int), tk := fun (x : Nat) => false, has := fun (x : Int) => false, av := fun (x : Int) => (0 : Int), gv := fun (x : Int) => (0 : Int) } { last := last, act := (0 : Int), gen := (1 : Int), n := (0 : Nat), sp := fun (x : Nat) => (0 : Int), ad := fun (x : Nat) => (0 : Int), gn := fun (x : Nat) => (0 : Int), m := (0 : Nat), tk := fun (x : Nat) => (0 : Int) } c) ∧ True)) from by kernel_rfl]
  simp [hg]
theorem makesC_p1 (last : Int) (hg : ¬ (last < 1 ∨ 255 < last)) : ∃ anns, fnVC Try.prog [] (callOf Try.prog [] [bothC, stepC]) anns Try.f5 ((Try.f5.body).getD .skip) [.val (.one (.int .i64 (.tm last)))] [] ⟨some (¬ (last < 1 ∨ 255 < last)), none, .val (.one (.bool (.lit true))), []⟩ := by
  refine ⟨⟨[], []⟩, ?_⟩
  rw [show fnVC Try.prog [] (callOf Try.prog [] [bothC, stepC]) ⟨[], []⟩ Try.f5 ((Try.f5.body).getD .skip) [.val (.one (.int .i64 (.tm last)))] [] ⟨some (¬ (last < 1 ∨ 255 < last)), none, .val (.one (.bool (.lit true))), []⟩ = ((last < (1 : Int) ∨ (255 : Int) < last → True) ∧ ((last < (1 : Int) ∨ (255 : Int) < last → False) → (∃ (c : Nat), c < (8796093021953 : Nat) ∧ Sim { last := last, gen := (1 : Int), act := (0 : Int), tk := fun (x : Nat) => false, has := fun (x : Int) => false, av := fun (x : Int) => (0 : Int), gv := fun (x : Int) => (0 : Int) } { last := last, act := (0 : Int), gen := (1 : Int), n := (0 : Nat), sp := fun (x : Nat) => (0 : Int), ad := fun (x : Nat) => (0 : Int), gn := fun (x : Nat) => (0 : Int), m := (0 : Nat), tk := fun (x : Nat) => (0 : Int) } c) ∧ True)) from by kernel_rfl]
  refine ⟨fun _ => trivial, fun _ => ⟨⟨0, by omega, Sim.new (by omega) (by omega)⟩, trivial⟩⟩
theorem makesC_ch (last : Int) : ∃ r ∈ ([⟨some (last < 1 ∨ 255 < last), none, .val (.one (.bool (.lit true))), []⟩, ⟨some (¬ (last < 1 ∨ 255 < last)), none, .val (.one (.bool (.lit true))), []⟩] : List Res), holdsP r.g ∧ (holdsP r.need → ∃ anns, fnVC Try.prog [] (callOf Try.prog [] [bothC, stepC]) anns Try.f5 ((Try.f5.body).getD .skip) [.val (.one (.int .i64 (.tm last)))] [] r) := by
  have hx : (last < 1 ∨ 255 < last) ∨ (¬ (last < 1 ∨ 255 < last)) := by
    by_cases h : last < 1 ∨ 255 < last
    · exact .inl h
    · exact .inr h
  rcases hx with h | h
  · exact ⟨_, List.mem_cons_self, h, fun _ => makesC_p0 last h⟩
  · exact ⟨_, (List.mem_cons_of_mem _ List.mem_cons_self), h, fun _ => makesC_p1 last h⟩
theorem makesC_ok : makesC.ok Try.prog [] := by
  refine con_ok (cs := [bothC, stepC]) (body := (Try.f5.body).getD .skip) ?_ Try.func5 rfl ?_
  · intro c h
    simp only [List.mem_cons, List.not_mem_nil, or_false] at h
    rcases h with rfl | rfl
    · exact bothC_ok
    · exact stepC_ok
  · intro args h l hl
    unfold makesC at hl
    dsimp only at hl
    split at hl
    · cases hl
      exact makesC_ch _
    · cases hl
end Go.Proofs.Ytcecdpebapkfaaa.con
namespace Go.Proofs.Ytcecdpebapkfaaa.asidsMakes
open Go Go.Proofs.YtcecdpebapkfaaaHy Go.ChangeShapes Go.WideShapes Go.ChangeAt Go.RowKit
set_option maxRecDepth 100000
theorem own : ownKnob Try.prog.godebug = none := by kernel_rfl
theorem law : LawOk con.makesC 0 [.one (.int .i64)] := by
  rintro vs h ⟨l0, vs1, rfl, ⟨last, rfl, _, _⟩, rfl, rfl⟩
  refine ⟨_, rfl, fun r hr => ?_⟩
  simp only [List.mem_cons, List.not_mem_nil, or_false] at hr
  rcases hr with rfl | rfl
  · exact ⟨trivial, rfl⟩
  · exact ⟨trivial, rfl⟩
theorem lifted (os : Os) (started : os.Started) (H : Type) (enc : TypeId × Value → H) :
    ReturnsInHanded {} Try.checked os 5 .any (Rows.asidsMakesSpec.pre6 enc Try.prog Try.f5 Rows.asidsMakesRow.domain false) (Rows.asidsMakesSpec.post enc Try.prog Try.f5 false true false false) := by
  refine returnsInHanded_of_change_sized (C := Try.checked) own started (by kernel_rfl) Try.func5
    (ChangeSpec.witness6 (enc := enc) (C := Try.checked) false ⟨#[], #[.int .i64 0], []⟩ 8 (by kernel_rfl) (by kernel_rfl) (by kernel_rfl) (by kernel_rfl)) ?_
  intro W base args ds gs before hval hW _ hsz _
  exact row_true con.makesC_ok law (ts := [3]) (by rfl) (by rw [Try.params5]) (by kernel_rfl) rfl (by kernel_rfl) (by kernel_rfl) Try.underlying4
    (fun ds h => by match ds, h with | [_], _ => rfl) hval hW hsz (fun i g hg => by simp at hg)
theorem over : Rows.asidsMakesRow.holds Try.pinned (OpenSpec.ofChange Rows.asidsMakesSpec) :=
  OpenClaim.holds_of_wide 5 Try.f5 rfl rfl rfl rfl rfl rfl rfl ⟨rfl, rfl, rfl, rfl, rfl⟩ rfl rfl rfl rfl rfl (by kernel_rfl) Try.func5 (by kernel_rfl)
    (of_decide_eq_true (by kernel_rfl)) (by unfold Func.isWrapper; first | (rw [if_pos (by decide +kernel)]; kernel_rfl) | (rw [if_neg (by decide +kernel)]; exact ⟨rfl, rfl⟩))
    (fun os started H enc _ => lifted os started H enc)
theorem proved : Rows.AsidsMakesSaid := over
#print axioms proved
end Go.Proofs.Ytcecdpebapkfaaa.asidsMakes
