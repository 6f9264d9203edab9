/- RamWipes: every Wipe and Touched of any script answers as the document says: the law answers true, and the arguments read as before. -/
import Derived.Test.YtipiilkdpmgneaaPlay
import Derived.Test.YtipiilkdpmgneaaRows
import Derived.KernelRfl
namespace Go.Proofs.Ytipiilkdpmgneaa.con
open Go Go.Proofs.YtipiilkdpmgneaaHz
set_option maxRecDepth 100000
set_option maxHeartbeats 4000000
noncomputable def wipesLawC : Con := ⟨7, fun args h => match args, h with
  | [.val (.one (.int .i64 (.tm n))), .val (.one (.vec 0))], [.vec false 54 m [.ints .i64 kd, .ints .i64 w, .ints .i64 N, .ints .u64 pa, .ints .u32 v, .fsubs 1 bb lo ln], .rof .u8 rd rv rf] => some [⟨none, some ((m : Int) ≤ 9223372036854775807 ∧ ∀ i, i < m → 0 ≤ pa i ∧ 0 ≤ v i ∧ v i ≤ 4294967295 ∧ N i ≤ 9223372036854775807 ∧ ln i ≤ 140737488351232 ∧ rd (bb i) = true ∧ ∀ j, j < ln i → rv (bb i) (lo i + j) = true ∧ 0 ≤ rf (bb i) (lo i + j) ∧ rf (bb i) (lo i + j) < 256), .det (.val (.one (.bool (.lit true)))) ([.vec false 54 m [.ints .i64 kd, .ints .i64 w, .ints .i64 N, .ints .u64 pa, .ints .u32 v, .fsubs 1 bb lo ln], .rof .u8 rd rv rf])⟩]
  | _, _ => none, true⟩
theorem wipesLawC_p0 (n : Int) (m : Nat) (kd w N pa v : Nat → Int) (bb lo ln : Nat → Nat) (rd : Nat → Bool) (rv : Nat → Nat → Bool) (rf : Nat → Nat → Int) (hn : (m : Int) ≤ 9223372036854775807 ∧ ∀ i, i < m → 0 ≤ pa i ∧ 0 ≤ v i ∧ v i ≤ 4294967295 ∧ N i ≤ 9223372036854775807 ∧ ln i ≤ 140737488351232 ∧ rd (bb i) = true ∧ ∀ j, j < ln i → rv (bb i) (lo i + j) = true ∧ 0 ≤ rf (bb i) (lo i + j) ∧ rf (bb i) (lo i + j) < 256) : ∃ anns, fnVC Try.prog [] (callOf Try.prog [] [playC]) anns Try.f7 ((Try.f7.body).getD .skip) [.val (.one (.int .i64 (.tm n))), .val (.one (.vec 0))] [.vec false 54 m [.ints .i64 kd, .ints .i64 w, .ints .i64 N, .ints .u64 pa, .ints .u32 v, .fsubs 1 bb lo ln], .rof .u8 rd rv rf] ⟨none, some ((m : Int) ≤ 9223372036854775807 ∧ ∀ i, i < m → 0 ≤ pa i ∧ 0 ≤ v i ∧ v i ≤ 4294967295 ∧ N i ≤ 9223372036854775807 ∧ ln i ≤ 140737488351232 ∧ rd (bb i) = true ∧ ∀ j, j < ln i → rv (bb i) (lo i + j) = true ∧ 0 ≤ rf (bb i) (lo i + j) ∧ rf (bb i) (lo i + j) < 256), .det (.val (.one (.bool (.lit true)))) ([.vec false 54 m [.ints .i64 kd, .ints .i64 w, .ints .i64 N, .ints .u64 pa, .ints .u32 v, .fsubs 1 bb lo ln], .rof .u8 rd rv rf])⟩ := by
  refine ⟨⟨[], [], [], [], [], []⟩, ?_⟩
  rw [show fnVC Try.prog [] (callOf Try.prog [] [playC]) ⟨[], [], [], [], [], []⟩ Try.f7 ((Try.f7.body).getD .skip) [.val (.one (.int .i64 (.tm n))), .val (.one (.vec 0))] [.vec false 54 m [.ints .i64 kd, .ints .i64 w, .ints .i64 N, .ints .u64 pa, .ints .u32 v, .fsubs 1 bb lo ln], .rof .u8 rd rv rf] ⟨none, some ((m : Int) ≤ 9223372036854775807 ∧ ∀ i, i < m → 0 ≤ pa i ∧ 0 ≤ v i ∧ v i ≤ 4294967295 ∧ N i ≤ 9223372036854775807 ∧ ln i ≤ 140737488351232 ∧ rd (bb i) = true ∧ ∀ j, j < ln i → rv (bb i) (lo i + j) = true ∧ 0 ≤ rf (bb i) (lo i + j) ∧ rf (bb i) (lo i + j) < 256), .det (.val (.one (.bool (.lit true)))) ([.vec false 54 m [.ints .i64 kd, .ints .i64 w, .ints .i64 N, .ints .u64 pa, .ints .u32 v, .fsubs 1 bb lo ln], .rof .u8 rd rv rf])⟩ = ((n < (1 : Int) ∨ (65536 : Int) < n → ((↑m : Int) ≤ (9223372036854775807 : Int) ∧ ∀ (i : Nat), i < m → (0 : Int) ≤ pa i ∧ (0 : Int) ≤ v i ∧ v i ≤ (4294967295 : Int) ∧ N i ≤ (9223372036854775807 : Int) ∧ ln i ≤ (140737488351232 : Nat) ∧ rd (bb i) = true ∧ ∀ (j : Nat), j < ln i → rv (bb i) (lo i + j) = true ∧ (0 : Int) ≤ rf (bb i) (lo i + j) ∧ rf (bb i) (lo i + j) < (256 : Int)) ∧ (m = m ∧ (∀ (i : Nat), i < m → kd i = kd i) ∧ (∀ (i : Nat), i < m → w i = w i) ∧ (∀ (i : Nat), i < m → N i = N i) ∧ (∀ (i : Nat), i < m → pa i = pa i) ∧ (∀ (i : Nat), i < m → v i = v i) ∧ ∀ (i : Nat), i < m → bb i = bb i ∧ lo i = lo i ∧ ln i = ln i) ∧ ∀ (b : Nat), rd b = true → rd b = true ∧ ∀ (j : Nat), rv b j = true → rv b j = true ∧ rf b j = rf b j) ∧ ((n < (1 : Int) ∨ (65536 : Int) < n → False) → ((↑m : Int) ≤ (9223372036854775807 : Int) ∧ ∀ (i : Nat), i < m → (0 : Int) ≤ pa i ∧ (0 : Int) ≤ v i ∧ v i ≤ (4294967295 : Int) ∧ N i ≤ (9223372036854775807 : Int) ∧ ln i ≤ (140737488351232 : Nat) ∧ rd (bb i) = true ∧ ∀ (j : Nat), j < ln i → rv (bb i) (lo i + j) = true ∧ (0 : Int) ≤ rf (bb i) (lo i + j) ∧ rf (bb i) (lo i + j) < (256 : Int)) ∧ (m = m ∧ (∀ (i : Nat), i < m → kd i = kd i) ∧ (∀ (i : Nat), i < m → w i = w i) ∧ (∀ (i : Nat), i < m → N i = N i) ∧ (∀ (i : Nat), i < m → pa i = pa i) ∧ (∀ (i : Nat), i < m → v i = v i) ∧ ∀ (i : Nat), i < m → bb i = bb i ∧ lo i = lo i ∧ ln i = ln i) ∧ ∀ (b : Nat), rd b = true → rd b = true ∧ ∀ (j : Nat), rv b j = true → rv b j = true ∧ rf b j = rf b j)) from by kernel_rfl]
  exact ⟨fun _ => ⟨hn, ⟨rfl, fun _ _ => rfl, fun _ _ => rfl, fun _ _ => rfl, fun _ _ => rfl, fun _ _ => rfl, fun _ _ => ⟨rfl, rfl, rfl⟩⟩, SubB.refl _ _ _⟩, fun _ => ⟨hn, ⟨rfl, fun _ _ => rfl, fun _ _ => rfl, fun _ _ => rfl, fun _ _ => rfl, fun _ _ => rfl, fun _ _ => ⟨rfl, rfl, rfl⟩⟩, SubB.refl _ _ _⟩⟩
theorem wipesLawC_ch (n : Int) (m : Nat) (kd w N pa v : Nat → Int) (bb lo ln : Nat → Nat) (rd : Nat → Bool) (rv : Nat → Nat → Bool) (rf : Nat → Nat → Int) : ∃ r ∈ ([⟨none, some ((m : Int) ≤ 9223372036854775807 ∧ ∀ i, i < m → 0 ≤ pa i ∧ 0 ≤ v i ∧ v i ≤ 4294967295 ∧ N i ≤ 9223372036854775807 ∧ ln i ≤ 140737488351232 ∧ rd (bb i) = true ∧ ∀ j, j < ln i → rv (bb i) (lo i + j) = true ∧ 0 ≤ rf (bb i) (lo i + j) ∧ rf (bb i) (lo i + j) < 256), .det (.val (.one (.bool (.lit true)))) ([.vec false 54 m [.ints .i64 kd, .ints .i64 w, .ints .i64 N, .ints .u64 pa, .ints .u32 v, .fsubs 1 bb lo ln], .rof .u8 rd rv rf])⟩] : List Res), holdsP r.g ∧ (holdsP r.need → r.r.shaped [.vec false 54 m [.ints .i64 kd, .ints .i64 w, .ints .i64 N, .ints .u64 pa, .ints .u32 v, .fsubs 1 bb lo ln], .rof .u8 rd rv rf] ∧ ∃ anns, fnVC Try.prog [] (callOf Try.prog [] [playC]) anns Try.f7 ((Try.f7.body).getD .skip) [.val (.one (.int .i64 (.tm n))), .val (.one (.vec 0))] [.vec false 54 m [.ints .i64 kd, .ints .i64 w, .ints .i64 N, .ints .u64 pa, .ints .u32 v, .fsubs 1 bb lo ln], .rof .u8 rd rv rf] r) := by
  exact ⟨_, List.mem_cons_self, trivial, fun hn => ⟨trivial, wipesLawC_p0 n m kd w N pa v bb lo ln rd rv rf hn⟩⟩
theorem wipesLawC_ok : wipesLawC.ok Try.prog [] := by
  refine con_ok (cs := [playC]) (body := (Try.f7.body).getD .skip) ?_ Try.func7 rfl ?_
  · intro c h
    simp only [List.mem_cons, List.not_mem_nil, or_false] at h
    rcases h with rfl
    · exact playC_ok
  · intro args h l hl
    unfold wipesLawC at hl
    dsimp only at hl
    split at hl
    · cases hl
      exact wipesLawC_ch _ _ _ _ _ _ _ _ _ _ _ _ _
    · cases hl
end Go.Proofs.Ytipiilkdpmgneaa.con
namespace Go.Proofs.Ytipiilkdpmgneaa.ramWipes
open Go Go.Proofs.YtipiilkdpmgneaaHz Go.ChangeShapes Go.WideShapes Go.ChangeAt Go.RowKit
set_option maxRecDepth 100000
theorem own : ownKnob Try.prog.godebug = none := by kernel_rfl
theorem law : LawOk con.wipesLawC 0 [.one (.int .i64), .listF 54 64 .u8 [.cell (.int .i64), .cell (.int .i64), .cell (.int .i64), .cell (.int .u64), .cell (.int .u32), .bytes]] := by
  rintro vs h ⟨l0, vs1, rfl, ⟨n, rfl, _, _⟩, m, cols, rd, rv, rf, vs2, h2, rfl, rfl, hn, hc, rfl, rfl⟩
  match cols, hc with
  | [c1, c2, c3, c4, c5, c6], ⟨⟨kd, e1, _⟩, ⟨w, e2, _⟩, ⟨N, e3, b3⟩, ⟨pa, e4, b4⟩, ⟨v, e5, b5⟩, ⟨bb, lo, ln, e6, b6⟩, _⟩ =>
    subst e1; subst e2; subst e3; subst e4; subst e5; subst e6
    refine ⟨_, rfl, fun r hr => ?_⟩
    simp only [List.mem_cons, List.not_mem_nil, or_false] at hr
    subst hr
    refine ⟨⟨by omega, fun i hi => ?_⟩, fun v objs h => h.1⟩
    obtain ⟨q1, q2, q3⟩ := b6 i hi
    refine ⟨(b4 i hi).1, (b5 i hi).1, (b5 i hi).2, (b3 i hi).2, q2, q1, fun j hj => ?_⟩
    obtain ⟨r1, r2, r3⟩ := q3 j hj
    exact ⟨r1, r2, Int.lt_of_le_of_lt r3 (by decide)⟩
theorem lifted (os : Os) (started : os.Started) (H : Type) (enc : TypeId × Value → H) :
    ReturnsInHanded {} Try.checked os 7 .any (Rows.ramWipesSpec.pre6 enc Try.prog Try.f7 Rows.ramWipesRow.domain false) (Rows.ramWipesSpec.post enc Try.prog Try.f7 false true false false) := by
  refine returnsInHanded_of_change_sized (C := Try.checked) own started (by kernel_rfl) Try.func7
    (ChangeSpec.witness6 (enc := enc) (C := Try.checked) false ⟨#[], #[.int .i64 0, .slice none 0 0], []⟩ 8 (by kernel_rfl) (by kernel_rfl) (by kernel_rfl) (by kernel_rfl)) ?_
  intro W base args ds gs before hval hW _ hsz _
  exact row_true con.wipesLawC_ok law (ts := [3, 45]) (by rfl) (by rw [Try.params7]) (by kernel_rfl) rfl (by kernel_rfl) (by kernel_rfl) Try.underlying4
    (fun ds h => by match ds, h with | [_, _], _ => rfl) hval hW hsz (fun i g hg => by simp at hg)
theorem over : Rows.ramWipesRow.holds Try.pinned (OpenSpec.ofChange Rows.ramWipesSpec) :=
  OpenClaim.holds_of_wide 7 Try.f7 rfl rfl rfl rfl rfl rfl rfl ⟨rfl, rfl, rfl, rfl, rfl⟩ rfl rfl rfl rfl rfl (by kernel_rfl) Try.func7 (by kernel_rfl)
    (of_decide_eq_true (by kernel_rfl)) (by unfold Func.isWrapper; first | (rw [if_pos (by decide +kernel)]; kernel_rfl) | (rw [if_neg (by decide +kernel)]; exact ⟨rfl, rfl⟩))
    (fun os started H enc _ => lifted os started H enc)
theorem proved : Rows.RamWipesSaid := over
#print axioms proved
end Go.Proofs.Ytipiilkdpmgneaa.ramWipes
