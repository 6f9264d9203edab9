/- AsidsTells: every look of any script answers as the document says: the law answers true, and the arguments read as before. -/
import Derived.Test.YtcecdpebapkfaaaPlayB
import Derived.Test.YtcecdpebapkfaaaRows
import Derived.KernelRfl
namespace Go.Proofs.Ytcecdpebapkfaaa.con
open Go Go.Proofs.YtcecdpebapkfaaaHy
set_option maxRecDepth 100000
set_option maxHeartbeats 4000000
noncomputable def tellsC : Con := ⟨8, fun args h => match args, h with
  | [.val (.one (.int .i64 (.tm last))), .val (.one (.vec 0))], [.vec false 31 n [.ints .i64 kd, .ints .i64 sp]] => some [⟨some (last < 1 ∨ 255 < last), none, .val (.one (.bool (.lit true))), [.vec false 31 n [.ints .i64 kd, .ints .i64 sp]]⟩, ⟨some (¬ (last < 1 ∨ 255 < last)), some (n * 16 ≤ 140737488351232), .val (.one (.bool (.lit true))), [.vec false 31 n [.ints .i64 kd, .ints .i64 sp]]⟩]
  | _, _ => none, false⟩
theorem tellsC_p0 (last : Int) (n : Nat) (kd sp : Nat → Int) (hg : last < 1 ∨ 255 < last) : ∃ anns, fnVC Try.prog [] (callOf Try.prog [] [playC]) anns Try.f8 ((Try.f8.body).getD .skip) [.val (.one (.int .i64 (.tm last))), .val (.one (.vec 0))] [.vec false 31 n [.ints .i64 kd, .ints .i64 sp]] ⟨some (last < 1 ∨ 255 < last), none, .val (.one (.bool (.lit true))), [.vec false 31 n [.ints .i64 kd, .ints .i64 sp]]⟩ := by
  refine ⟨⟨[], []⟩, ?_⟩
  rw [show fnVC Try.prog [] (callOf Try.prog [] [playC]) ⟨[], []⟩ Try.f8 ((Try.f8.body).getD .skip) [.val (.one (.int .i64 (.tm last))), .val (.one (.vec 0))] [.vec false 31 n [.ints .i64 kd, .ints .i64 sp]] ⟨some (last < 1 ∨ 255 < last), none, .val (.one (.bool (.lit true))), [.vec false 31 n [.ints .i64 kd, .ints .i64 sp]]⟩ = ((last < (1 : Int) ∨ (255 : Int) < last → n = n ∧ (∀ (i : Nat), i < n → kd i = kd i) ∧ ∀ (i : Nat), i < n → sp i = sp i) ∧ ((last < (1 : Int) ∨ (255 : Int) < last → False) → n * (16 : Nat) ≤ (140737488351232 : Nat) ∧ n = n ∧ (∀ (i : Nat), i < n → kd i = kd i) ∧ ∀ (i : Nat), i < n → sp i = sp i)) from by kernel_rfl]
  simp [hg]
theorem tellsC_p1 (last : Int) (n : Nat) (kd sp : Nat → Int) (hg : ¬ (last < 1 ∨ 255 < last)) (hn : n * 16 ≤ 140737488351232) : ∃ anns, fnVC Try.prog [] (callOf Try.prog [] [playC]) anns Try.f8 ((Try.f8.body).getD .skip) [.val (.one (.int .i64 (.tm last))), .val (.one (.vec 0))] [.vec false 31 n [.ints .i64 kd, .ints .i64 sp]] ⟨some (¬ (last < 1 ∨ 255 < last)), some (n * 16 ≤ 140737488351232), .val (.one (.bool (.lit true))), [.vec false 31 n [.ints .i64 kd, .ints .i64 sp]]⟩ := by
  refine ⟨⟨[], []⟩, ?_⟩
  rw [show fnVC Try.prog [] (callOf Try.prog [] [playC]) ⟨[], []⟩ Try.f8 ((Try.f8.body).getD .skip) [.val (.one (.int .i64 (.tm last))), .val (.one (.vec 0))] [.vec false 31 n [.ints .i64 kd, .ints .i64 sp]] ⟨some (¬ (last < 1 ∨ 255 < last)), some (n * 16 ≤ 140737488351232), .val (.one (.bool (.lit true))), [.vec false 31 n [.ints .i64 kd, .ints .i64 sp]]⟩ = ((last < (1 : Int) ∨ (255 : Int) < last → n = n ∧ (∀ (i : Nat), i < n → kd i = kd i) ∧ ∀ (i : Nat), i < n → sp i = sp i) ∧ ((last < (1 : Int) ∨ (255 : Int) < last → False) → n * (16 : Nat) ≤ (140737488351232 : Nat) ∧ n = n ∧ (∀ (i : Nat), i < n → kd i = kd i) ∧ ∀ (i : Nat), i < n → sp i = sp i)) from by kernel_rfl]
  simp [hg, hn]
theorem tellsC_ch (last : Int) (n : Nat) (kd sp : Nat → Int) : ∃ r ∈ ([⟨some (last < 1 ∨ 255 < last), none, .val (.one (.bool (.lit true))), [.vec false 31 n [.ints .i64 kd, .ints .i64 sp]]⟩, ⟨some (¬ (last < 1 ∨ 255 < last)), some (n * 16 ≤ 140737488351232), .val (.one (.bool (.lit true))), [.vec false 31 n [.ints .i64 kd, .ints .i64 sp]]⟩] : List Res), holdsP r.g ∧ (holdsP r.need → ∃ anns, fnVC Try.prog [] (callOf Try.prog [] [playC]) anns Try.f8 ((Try.f8.body).getD .skip) [.val (.one (.int .i64 (.tm last))), .val (.one (.vec 0))] [.vec false 31 n [.ints .i64 kd, .ints .i64 sp]] r) := by
  have hx : (last < 1 ∨ 255 < last) ∨ (¬ (last < 1 ∨ 255 < last)) := by
    by_cases h : last < 1 ∨ 255 < last
    · exact .inl h
    · exact .inr h
  rcases hx with h | h
  · exact ⟨_, List.mem_cons_self, h, fun _ => tellsC_p0 last n kd sp h⟩
  · exact ⟨_, (List.mem_cons_of_mem _ List.mem_cons_self), h, fun hn => tellsC_p1 last n kd sp h hn⟩
theorem tellsC_ok : tellsC.ok Try.prog [] := by
  refine con_ok (cs := [playC]) (body := (Try.f8.body).getD .skip) ?_ Try.func8 rfl ?_
  · intro c h
    simp only [List.mem_cons, List.not_mem_nil, or_false] at h
    rcases h with rfl
    · exact playC_ok
  · intro args h l hl
    unfold tellsC at hl
    dsimp only at hl
    split at hl
    · cases hl
      exact tellsC_ch _ _ _ _
    · cases hl
end Go.Proofs.Ytcecdpebapkfaaa.con
namespace Go.Proofs.Ytcecdpebapkfaaa.asidsTells
open Go Go.Proofs.YtcecdpebapkfaaaHy Go.ChangeShapes Go.WideShapes Go.ChangeAt Go.RowKit
set_option maxRecDepth 100000
theorem own : ownKnob Try.prog.godebug = none := by kernel_rfl
theorem law : LawOk con.tellsC 0 [.one (.int .i64), .list 31 16 [.int .i64, .int .i64]] := by
  rintro vs h ⟨l0, vs1, rfl, ⟨last, rfl, _, _⟩, n, cols, vs2, h2, rfl, rfl, hn, hc, rfl, rfl⟩
  match cols, hc with
  | [c1, c2], ⟨⟨kd, e1, _⟩, ⟨sp, e2, _⟩, _⟩ =>
    subst e1; subst e2
    refine ⟨_, rfl, fun r hr => ?_⟩
    simp only [List.mem_cons, List.not_mem_nil, or_false] at hr
    rcases hr with rfl | rfl
    · exact ⟨trivial, rfl⟩
    · exact ⟨hn, rfl⟩
theorem lifted (os : Os) (started : os.Started) (H : Type) (enc : TypeId × Value → H) :
    ReturnsInHanded {} Try.checked os 8 .any (Rows.asidsTellsSpec.pre6 enc Try.prog Try.f8 Rows.asidsTellsRow.domain false) (Rows.asidsTellsSpec.post enc Try.prog Try.f8 false true false false) := by
  refine returnsInHanded_of_change_sized (C := Try.checked) own started (by kernel_rfl) Try.func8
    (ChangeSpec.witness6 (enc := enc) (C := Try.checked) false ⟨#[], #[.int .i64 0, .slice none 0 0], []⟩ 8 (by kernel_rfl) (by kernel_rfl) (by kernel_rfl) (by kernel_rfl)) ?_
  intro W base args ds gs before hval hW _ hsz _
  exact row_true con.tellsC_ok law (ts := [3, 22]) (by rfl) (by rw [Try.params8]) (by kernel_rfl) rfl (by kernel_rfl) (by kernel_rfl) Try.underlying4
    (fun ds h => by match ds, h with | [_, _], _ => rfl) hval hW hsz (fun i g hg => by simp at hg)
theorem over : Rows.asidsTellsRow.holds Try.pinned (OpenSpec.ofChange Rows.asidsTellsSpec) :=
  OpenClaim.holds_of_wide 8 Try.f8 rfl rfl rfl rfl rfl rfl rfl ⟨rfl, rfl, rfl, rfl, rfl⟩ rfl rfl rfl rfl rfl (by kernel_rfl) Try.func8 (by kernel_rfl)
    (of_decide_eq_true (by kernel_rfl)) (by unfold Func.isWrapper; first | (rw [if_pos (by decide +kernel)]; kernel_rfl) | (rw [if_neg (by decide +kernel)]; exact ⟨rfl, rfl⟩))
    (fun os started H enc _ => lifted os started H enc)
theorem proved : Rows.AsidsTellsSaid := over
#print axioms proved
end Go.Proofs.Ytcecdpebapkfaaa.asidsTells
