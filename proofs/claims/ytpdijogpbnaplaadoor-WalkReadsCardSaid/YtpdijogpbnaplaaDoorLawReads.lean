/- WalkReads: the descriptors that the walk of any address reads, by any context, over any memory that is written word by word, are the document's: the law answers true, and the arguments read as before; the tables of package desc read as the program lays them. -/
import Derived.Test.YtpdijogpbnaplaaDoorBegin
import Derived.Test.YtpdijogpbnaplaaDoorRows
import Derived.Test.YtpdijogpbnaplaaDoorTie
import Derived.Test.YtpdijogpbnaplaaDoorCards
import Derived.KernelRfl
namespace Go.Proofs.YtpdijogpbnaplaaDoor.con
open Go Go.Proofs.YtpdijogpbnaplaaDoorHz
set_option maxRecDepth 100000
set_option maxHeartbeats 4000000
noncomputable def rdsC : Con := ⟨4, fun args h => match args, h with
  | [.val (.one (.int .i64 (.tm n))), .val (.one (.vec 2)), .val (.agg [.bool (.tm on), .bool (.tm tre), .bool (.tm afe), .int .i64 (.tm cn), .bool (.tm pd0), .bool (.tm pd1), .int .u64 (.tm b0), .int .u64 (.tm b1), .int .u32 (.tm da), .int .u32 (.tm pr), .int .u32 (.tm nm), .int .i64 (.tm asd)]), .val (.one (.vec 3))], [.vec false 50 m [.ints .u64 pa, .ints .u32 pw], .vec false 24 q [.ints .u32 vas]] => some [⟨some (n < 1 ∨ 65536 < n), some ((m : Int) ≤ 9223372036854775807 ∧ (∀ i, i < m → 0 ≤ pa i ∧ 0 ≤ pw i ∧ pw i ≤ 4294967295) ∧ 0 ≤ b0 ∧ b0 < 18446744073709551616 ∧ 0 ≤ b1 ∧ b1 < 18446744073709551616 ∧ (q : Int) ≤ 9223372036854775807 ∧ (∀ i, i < q → 0 ≤ vas i ∧ vas i < 4294967296)), .det (.val (.one (.bool (.lit true)))) ([.vec false 50 m [.ints .u64 pa, .ints .u32 pw], .vec false 24 q [.ints .u32 vas]])⟩, ⟨some (¬ (n < 1 ∨ 65536 < n)), some ((m : Int) ≤ 9223372036854775807 ∧ (∀ i, i < m → 0 ≤ pa i ∧ 0 ≤ pw i ∧ pw i ≤ 4294967295) ∧ 0 ≤ b0 ∧ b0 < 18446744073709551616 ∧ 0 ≤ b1 ∧ b1 < 18446744073709551616 ∧ (q : Int) ≤ 9223372036854775807 ∧ (∀ i, i < q → 0 ≤ vas i ∧ vas i < 4294967296)), .det (.val (.one (.bool (.lit true)))) ([.vec false 50 m [.ints .u64 pa, .ints .u32 pw], .vec false 24 q [.ints .u32 vas]])⟩]
  | _, _ => none, true⟩
theorem rdsC_p0 (n : Int) (m : Nat) (pa pw : Nat → Int) (on tre afe pd0 pd1 : Bool) (cn b0 b1 da pr nm asd : Int) (q : Nat) (vas : Nat → Int) (hg : n < 1 ∨ 65536 < n) (hn : (m : Int) ≤ 9223372036854775807 ∧ (∀ i, i < m → 0 ≤ pa i ∧ 0 ≤ pw i ∧ pw i ≤ 4294967295) ∧ 0 ≤ b0 ∧ b0 < 18446744073709551616 ∧ 0 ≤ b1 ∧ b1 < 18446744073709551616 ∧ (q : Int) ≤ 9223372036854775807 ∧ (∀ i, i < q → 0 ≤ vas i ∧ vas i < 4294967296)) : ∃ anns, fnVC Tryd.prog GTab (callOf Tryd.prog GTab [beginC, readsC, rreadsC, eq9C]) anns Tryd.f4 ((Tryd.f4.body).getD .skip) [.val (.one (.int .i64 (.tm n))), .val (.one (.vec 2)), .val (.agg [.bool (.tm on), .bool (.tm tre), .bool (.tm afe), .int .i64 (.tm cn), .bool (.tm pd0), .bool (.tm pd1), .int .u64 (.tm b0), .int .u64 (.tm b1), .int .u32 (.tm da), .int .u32 (.tm pr), .int .u32 (.tm nm), .int .i64 (.tm asd)]), .val (.one (.vec 3))] [.vec false 50 m [.ints .u64 pa, .ints .u32 pw], .vec false 24 q [.ints .u32 vas]] ⟨some (n < 1 ∨ 65536 < n), some ((m : Int) ≤ 9223372036854775807 ∧ (∀ i, i < m → 0 ≤ pa i ∧ 0 ≤ pw i ∧ pw i ≤ 4294967295) ∧ 0 ≤ b0 ∧ b0 < 18446744073709551616 ∧ 0 ≤ b1 ∧ b1 < 18446744073709551616 ∧ (q : Int) ≤ 9223372036854775807 ∧ (∀ i, i < q → 0 ≤ vas i ∧ vas i < 4294967296)), .det (.val (.one (.bool (.lit true)))) ([.vec false 50 m [.ints .u64 pa, .ints .u32 pw], .vec false 24 q [.ints .u32 vas]])⟩ := by
  refine ⟨⟨[], [], [], [], [(15, 0)], [], []⟩, ?_⟩
  rw [show fnVC Tryd.prog GTab (callOf Tryd.prog GTab [beginC, readsC, rreadsC, eq9C]) ⟨[], [], [], [], [(15, 0)], [], []⟩ Tryd.f4 ((Tryd.f4.body).getD .skip) [.val (.one (.int .i64 (.tm n))), .val (.one (.vec 2)), .val (.agg [.bool (.tm on), .bool (.tm tre), .bool (.tm afe), .int .i64 (.tm cn), .bool (.tm pd0), .bool (.tm pd1), .int .u64 (.tm b0), .int .u64 (.tm b1), .int .u32 (.tm da), .int .u32 (.tm pr), .int .u32 (.tm nm), .int .i64 (.tm asd)]), .val (.one (.vec 3))] [.vec false 50 m [.ints .u64 pa, .ints .u32 pw], .vec false 24 q [.ints .u32 vas]] ⟨some (n < 1 ∨ 65536 < n), some ((m : Int) ≤ 9223372036854775807 ∧ (∀ i, i < m → 0 ≤ pa i ∧ 0 ≤ pw i ∧ pw i ≤ 4294967295) ∧ 0 ≤ b0 ∧ b0 < 18446744073709551616 ∧ 0 ≤ b1 ∧ b1 < 18446744073709551616 ∧ (q : Int) ≤ 9223372036854775807 ∧ (∀ i, i < q → 0 ≤ vas i ∧ vas i < 4294967296)), .det (.val (.one (.bool (.lit true)))) ([.vec false 50 m [.ints .u64 pa, .ints .u32 pw], .vec false 24 q [.ints .u32 vas]])⟩ = (((n < (1 : Int) ∨ (65536 : Int) < n → False) → False) ∧ (n < (1 : Int) ∨ (65536 : Int) < n → (m = m ∧ (∀ (i : Nat), i < m → pa i = pa i) ∧ ∀ (i : Nat), i < m → pw i = pw i) ∧ q = q ∧ ∀ (i : Nat), i < q → vas i = vas i)) from by kernel_rfl]
  simp [hg]
theorem rdsC_p1 (n : Int) (m : Nat) (pa pw : Nat → Int) (on tre afe pd0 pd1 : Bool) (cn b0 b1 da pr nm asd : Int) (q : Nat) (vas : Nat → Int) (hg : ¬ (n < 1 ∨ 65536 < n)) (hn : (m : Int) ≤ 9223372036854775807 ∧ (∀ i, i < m → 0 ≤ pa i ∧ 0 ≤ pw i ∧ pw i ≤ 4294967295) ∧ 0 ≤ b0 ∧ b0 < 18446744073709551616 ∧ 0 ≤ b1 ∧ b1 < 18446744073709551616 ∧ (q : Int) ≤ 9223372036854775807 ∧ (∀ i, i < q → 0 ≤ vas i ∧ vas i < 4294967296)) : ∃ anns, fnVC Tryd.prog GTab (callOf Tryd.prog GTab [beginC, readsC, rreadsC, eq9C]) anns Tryd.f4 ((Tryd.f4.body).getD .skip) [.val (.one (.int .i64 (.tm n))), .val (.one (.vec 2)), .val (.agg [.bool (.tm on), .bool (.tm tre), .bool (.tm afe), .int .i64 (.tm cn), .bool (.tm pd0), .bool (.tm pd1), .int .u64 (.tm b0), .int .u64 (.tm b1), .int .u32 (.tm da), .int .u32 (.tm pr), .int .u32 (.tm nm), .int .i64 (.tm asd)]), .val (.one (.vec 3))] [.vec false 50 m [.ints .u64 pa, .ints .u32 pw], .vec false 24 q [.ints .u32 vas]] ⟨some (¬ (n < 1 ∨ 65536 < n)), some ((m : Int) ≤ 9223372036854775807 ∧ (∀ i, i < m → 0 ≤ pa i ∧ 0 ≤ pw i ∧ pw i ≤ 4294967295) ∧ 0 ≤ b0 ∧ b0 < 18446744073709551616 ∧ 0 ≤ b1 ∧ b1 < 18446744073709551616 ∧ (q : Int) ≤ 9223372036854775807 ∧ (∀ i, i < q → 0 ≤ vas i ∧ vas i < 4294967296)), .det (.val (.one (.bool (.lit true)))) ([.vec false 50 m [.ints .u64 pa, .ints .u32 pw], .vec false 24 q [.ints .u32 vas]])⟩ := by
  refine ⟨⟨[⟨Nat, fun σ x => setT [(11, .val (.one (.int .i64 (.tm ((x : Int))))))] σ, fun _ x => x ≤ q, fun x => q - x⟩], [], [], [], [(15, 1)], [], []⟩, ?_⟩
  rw [show fnVC Tryd.prog GTab (callOf Tryd.prog GTab [beginC, readsC, rreadsC, eq9C]) ⟨[⟨Nat, fun σ x => setT [(11, .val (.one (.int .i64 (.tm ((x : Int))))))] σ, fun _ x => x ≤ q, fun x => q - x⟩], [], [], [], [(15, 1)], [], []⟩ Tryd.f4 ((Tryd.f4.body).getD .skip) [.val (.one (.int .i64 (.tm n))), .val (.one (.vec 2)), .val (.agg [.bool (.tm on), .bool (.tm tre), .bool (.tm afe), .int .i64 (.tm cn), .bool (.tm pd0), .bool (.tm pd1), .int .u64 (.tm b0), .int .u64 (.tm b1), .int .u32 (.tm da), .int .u32 (.tm pr), .int .u32 (.tm nm), .int .i64 (.tm asd)]), .val (.one (.vec 3))] [.vec false 50 m [.ints .u64 pa, .ints .u32 pw], .vec false 24 q [.ints .u32 vas]] ⟨some (¬ (n < 1 ∨ 65536 < n)), some ((m : Int) ≤ 9223372036854775807 ∧ (∀ i, i < m → 0 ≤ pa i ∧ 0 ≤ pw i ∧ pw i ≤ 4294967295) ∧ 0 ≤ b0 ∧ b0 < 18446744073709551616 ∧ 0 ≤ b1 ∧ b1 < 18446744073709551616 ∧ (q : Int) ≤ 9223372036854775807 ∧ (∀ i, i < q → 0 ≤ vas i ∧ vas i < 4294967296)), .det (.val (.one (.bool (.lit true)))) ([.vec false 50 m [.ints .u64 pa, .ints .u32 pw], .vec false 24 q [.ints .u32 vas]])⟩ = ((n < (1 : Int) ∨ (65536 : Int) < n → False) ∧ ((n < (1 : Int) ∨ (65536 : Int) < n → False) → ((↑m : Int) ≤ (9223372036854775807 : Int) ∧ ∀ (i : Nat), i < m → (0 : Int) ≤ pa i ∧ (0 : Int) ≤ pw i ∧ pw i ≤ (4294967295 : Int)) ∧ ∀ (x : W1), W1.Inv n x → (∃ (x_1 : Nat), x_1 ≤ q ∧ (n = n ∧ (on = on ∧ tre = tre ∧ afe = afe ∧ cn = cn ∧ pd0 = pd0 ∧ pd1 = pd1 ∧ b0 = b0 ∧ b1 = b1 ∧ da = da ∧ pr = pr ∧ nm = nm ∧ asd = asd) ∧ (0 : Int) = (↑x_1 : Int) ∧ n = n) ∧ (m = m ∧ (∀ (i : Nat), i < m → pa i = pa i) ∧ ∀ (i : Nat), i < m → pw i = pw i) ∧ (q = q ∧ ∀ (i : Nat), i < q → vas i = vas i) ∧ (on = on ∧ tre = tre ∧ afe = afe ∧ cn = cn ∧ pd0 = pd0 ∧ pd1 = pd1 ∧ b0 = b0 ∧ b1 = b1 ∧ da = da ∧ pr = pr ∧ nm = nm ∧ asd = asd) ∧ n = n ∧ ((∀ (i : Int), x.p.has i = x.p.has i) ∧ ∀ (i : Int), x.p.has i = true → x.p.bb i = x.p.bb i) ∧ (∀ (b : Nat), x.p.dom b = true → x.p.dom b = true ∧ x.p.ln b = x.p.ln b ∧ ∀ (j : Nat), j < x.p.ln b → x.p.g b j = x.p.g b j) ∧ n = n ∧ (x.r.cnt = x.r.cnt ∧ (∀ (i : Nat), i < x.r.cnt → x.r.no i = x.r.no i) ∧ ∀ (i : Nat), i < x.r.cnt → x.r.bb i = x.r.bb i ∧ (0 : Nat) = (0 : Nat) ∧ x.r.sl i = x.r.sl i) ∧ ∀ (b : Nat), x.r.dom b = true → x.r.dom b = true ∧ x.r.ln b = x.r.ln b ∧ ∀ (j : Nat), j < x.r.ln b → x.r.g b j = x.r.g b j) ∧ ∀ (x_1 : Nat), x_1 ≤ q → (decide ((↑x_1 : Int) < (↑q : Int)) = true → ((0 : Int) ≤ (↑x_1 : Int) ∧ (↑x_1 : Int) < (↑q : Int)) ∧ (↑x_1 : Int).toNat < q ∧ (PM.Inv n x.p ∧ n ≤ (65536 : Int) ∧ (0 : Int) ≤ n ∧ (0 : Int) ≤ b0 ∧ b0 < (18446744073709551616 : Int) ∧ (0 : Int) ≤ b1 ∧ b1 < (18446744073709551616 : Int) ∧ (0 : Int) ≤ vas (↑x_1 : Int).toNat ∧ vas (↑x_1 : Int).toNat < (4294967296 : Int)) ∧ ((0 : Int) ≤ (↑x_1 : Int) ∧ (↑x_1 : Int) < (↑q : Int)) ∧ (↑x_1 : Int).toNat < q ∧ (RM.Inv n x.r ∧ (∀ (i : Nat), i < x.r.cnt → (0 : Nat) = (0 : Nat)) ∧ n ≤ (65536 : Int) ∧ (0 : Int) ≤ n ∧ (0 : Int) ≤ b0 ∧ b0 < (18446744073709551616 : Int) ∧ (0 : Int) ≤ b1 ∧ b1 < (18446744073709551616 : Int) ∧ (0 : Int) ≤ vas (↑x_1 : Int).toNat ∧ vas (↑x_1 : Int).toNat < (4294967296 : Int)) ∧ (((walkS n x.p.at_ (Cx9.mk on cn pd0 pd1 b0 b1) (vas (↑x_1 : Int).toNat)).m = (walkS n x.r.at_ (Cx9.mk on cn pd0 pd1 b0 b1) (vas (↑x_1 : Int).toNat)).m ∧ ∀ (j : Nat), j < (walkS n x.p.at_ (Cx9.mk on cn pd0 pd1 b0 b1) (vas (↑x_1 : Int).toNat)).m → (walkS n x.p.at_ (Cx9.mk on cn pd0 pd1 b0 b1) (vas (↑x_1 : Int).toNat)).a j = (walkS n x.r.at_ (Cx9.mk on cn pd0 pd1 b0 b1) (vas (↑x_1 : Int).toNat)).a j) → (↑(walkS n x.p.at_ (Cx9.mk on cn pd0 pd1 b0 b1) (vas (↑x_1 : Int).toNat)).m : Int) ≤ (9223372036854775807 : Int) ∧ ∃ (y : Nat), y ≤ q ∧ q - y < q - x_1 ∧ (n = n ∧ (on = on ∧ tre = tre ∧ afe = afe ∧ cn = cn ∧ pd0 = pd0 ∧ pd1 = pd1 ∧ b0 = b0 ∧ b1 = b1 ∧ da = da ∧ pr = pr ∧ nm = nm ∧ asd = asd) ∧ IntKind.i64.wrap ((↑x_1 : Int) + (1 : Int)) = (↑y : Int) ∧ n = n) ∧ (m = m ∧ (∀ (i : Nat), i < m → pa i = pa i) ∧ ∀ (i : Nat), i < m → pw i = pw i) ∧ (q = q ∧ ∀ (i : Nat), i < q → vas i = vas i) ∧ (on = on ∧ tre = tre ∧ afe = afe ∧ cn = cn ∧ pd0 = pd0 ∧ pd1 = pd1 ∧ b0 = b0 ∧ b1 = b1 ∧ da = da ∧ pr = pr ∧ nm = nm ∧ asd = asd) ∧ n = n ∧ ((∀ (i : Int), x.p.has i = x.p.has i) ∧ ∀ (i : Int), x.p.has i = true → x.p.bb i = x.p.bb i) ∧ (∀ (b : Nat), x.p.dom b = true → x.p.dom b = true ∧ x.p.ln b = x.p.ln b ∧ ∀ (j : Nat), j < x.p.ln b → x.p.g b j = x.p.g b j) ∧ n = n ∧ (x.r.cnt = x.r.cnt ∧ (∀ (i : Nat), i < x.r.cnt → x.r.no i = x.r.no i) ∧ ∀ (i : Nat), i < x.r.cnt → x.r.bb i = x.r.bb i ∧ (0 : Nat) = (0 : Nat) ∧ x.r.sl i = x.r.sl i) ∧ ∀ (b : Nat), x.r.dom b = true → x.r.dom b = true ∧ x.r.ln b = x.r.ln b ∧ ∀ (j : Nat), j < x.r.ln b → x.r.g b j = x.r.g b j) ∧ ((((walkS n x.p.at_ (Cx9.mk on cn pd0 pd1 b0 b1) (vas (↑x_1 : Int).toNat)).m = (walkS n x.r.at_ (Cx9.mk on cn pd0 pd1 b0 b1) (vas (↑x_1 : Int).toNat)).m ∧ ∀ (j : Nat), j < (walkS n x.p.at_ (Cx9.mk on cn pd0 pd1 b0 b1) (vas (↑x_1 : Int).toNat)).m → (walkS n x.p.at_ (Cx9.mk on cn pd0 pd1 b0 b1) (vas (↑x_1 : Int).toNat)).a j = (walkS n x.r.at_ (Cx9.mk on cn pd0 pd1 b0 b1) (vas (↑x_1 : Int).toNat)).a j) → False) → (↑(walkS n x.p.at_ (Cx9.mk on cn pd0 pd1 b0 b1) (vas (↑x_1 : Int).toNat)).m : Int) ≤ (9223372036854775807 : Int) ∧ False ∧ (m = m ∧ (∀ (i : Nat), i < m → pa i = pa i) ∧ ∀ (i : Nat), i < m → pw i = pw i) ∧ q = q ∧ ∀ (i : Nat), i < q → vas i = vas i)) ∧ (decide ((↑x_1 : Int) < (↑q : Int)) = false → (m = m ∧ (∀ (i : Nat), i < m → pa i = pa i) ∧ ∀ (i : Nat), i < m → pw i = pw i) ∧ q = q ∧ ∀ (i : Nat), i < q → vas i = vas i))) from by kernel_rfl]
  obtain ⟨hm, hp, c1, c2, c3, c4, hq, hv⟩ := hn
  have hg1 : 1 ≤ n ∧ n ≤ 65536 := by omega
  refine ⟨hg, fun _ => ⟨⟨hm, hp⟩, fun x hx => ⟨⟨0, Nat.zero_le _, ⟨rfl, ⟨rfl, rfl, rfl, rfl, rfl, rfl, rfl, rfl, rfl, rfl, rfl, rfl⟩, rfl, rfl⟩, ⟨rfl, fun _ _ => rfl, fun _ _ => rfl⟩, ⟨rfl, fun _ _ => rfl⟩, ⟨rfl, rfl, rfl, rfl, rfl, rfl, rfl, rfl, rfl, rfl, rfl, rfl⟩, rfl, ⟨fun _ => rfl, fun _ _ => rfl⟩, (fun _ h => ⟨h, rfl, fun _ _ => rfl⟩), rfl, ⟨rfl, fun _ _ => rfl, fun _ _ => ⟨rfl, rfl, rfl⟩⟩, (fun _ h => ⟨h, rfl, fun _ _ => rfl⟩)⟩, fun k hk => ⟨fun hlt => ?_, fun _ => ⟨⟨rfl, fun _ _ => rfl, fun _ _ => rfl⟩, ⟨rfl, fun _ _ => rfl⟩⟩⟩⟩⟩⟩
  have hlt := of_decide_eq_true hlt
  have e : ((k : Int)).toNat = k := Int.toNat_natCast _
  have hkq : k < q := by omega
  obtain ⟨v1, v2⟩ := hv k hkq
  have hkw : IntKind.i64.wrap ((k : Int) + 1) = ((k + 1 : Nat) : Int) := by rw [wrap_i64 (by omega) (by omega)]; rfl
  rw [e]
  refine ⟨⟨by omega, hlt⟩, hkq, ⟨hx.p, by omega, by omega, c1, c2, c3, c4, v1, v2⟩, ⟨by omega, hlt⟩, hkq, ⟨hx.r, fun _ _ => rfl, by omega, by omega, c1, c2, c3, c4, v1, v2⟩, ?_⟩
  rw [hx.walk]
  have hm2 := walk_m n x.p.at_ (Cx9.mk on cn pd0 pd1 b0 b1) (vas k)
  exact ⟨fun _ => ⟨by omega, ⟨k + 1, hkq, by omega, ⟨rfl, ⟨rfl, rfl, rfl, rfl, rfl, rfl, rfl, rfl, rfl, rfl, rfl, rfl⟩, hkw, rfl⟩, ⟨rfl, fun _ _ => rfl, fun _ _ => rfl⟩, ⟨rfl, fun _ _ => rfl⟩, ⟨rfl, rfl, rfl, rfl, rfl, rfl, rfl, rfl, rfl, rfl, rfl, rfl⟩, rfl, ⟨fun _ => rfl, fun _ _ => rfl⟩, (fun _ h => ⟨h, rfl, fun _ _ => rfl⟩), rfl, ⟨rfl, fun _ _ => rfl, fun _ _ => ⟨rfl, rfl, rfl⟩⟩, (fun _ h => ⟨h, rfl, fun _ _ => rfl⟩)⟩⟩, fun h => absurd ⟨rfl, fun _ _ => rfl⟩ h⟩
theorem rdsC_ch (n : Int) (m : Nat) (pa pw : Nat → Int) (on tre afe pd0 pd1 : Bool) (cn b0 b1 da pr nm asd : Int) (q : Nat) (vas : Nat → Int) : ∃ r ∈ ([⟨some (n < 1 ∨ 65536 < n), some ((m : Int) ≤ 9223372036854775807 ∧ (∀ i, i < m → 0 ≤ pa i ∧ 0 ≤ pw i ∧ pw i ≤ 4294967295) ∧ 0 ≤ b0 ∧ b0 < 18446744073709551616 ∧ 0 ≤ b1 ∧ b1 < 18446744073709551616 ∧ (q : Int) ≤ 9223372036854775807 ∧ (∀ i, i < q → 0 ≤ vas i ∧ vas i < 4294967296)), .det (.val (.one (.bool (.lit true)))) ([.vec false 50 m [.ints .u64 pa, .ints .u32 pw], .vec false 24 q [.ints .u32 vas]])⟩, ⟨some (¬ (n < 1 ∨ 65536 < n)), some ((m : Int) ≤ 9223372036854775807 ∧ (∀ i, i < m → 0 ≤ pa i ∧ 0 ≤ pw i ∧ pw i ≤ 4294967295) ∧ 0 ≤ b0 ∧ b0 < 18446744073709551616 ∧ 0 ≤ b1 ∧ b1 < 18446744073709551616 ∧ (q : Int) ≤ 9223372036854775807 ∧ (∀ i, i < q → 0 ≤ vas i ∧ vas i < 4294967296)), .det (.val (.one (.bool (.lit true)))) ([.vec false 50 m [.ints .u64 pa, .ints .u32 pw], .vec false 24 q [.ints .u32 vas]])⟩] : List Res), holdsP r.g ∧ (holdsP r.need → r.r.shaped [.vec false 50 m [.ints .u64 pa, .ints .u32 pw], .vec false 24 q [.ints .u32 vas]] ∧ ∃ anns, fnVC Tryd.prog GTab (callOf Tryd.prog GTab [beginC, readsC, rreadsC, eq9C]) anns Tryd.f4 ((Tryd.f4.body).getD .skip) [.val (.one (.int .i64 (.tm n))), .val (.one (.vec 2)), .val (.agg [.bool (.tm on), .bool (.tm tre), .bool (.tm afe), .int .i64 (.tm cn), .bool (.tm pd0), .bool (.tm pd1), .int .u64 (.tm b0), .int .u64 (.tm b1), .int .u32 (.tm da), .int .u32 (.tm pr), .int .u32 (.tm nm), .int .i64 (.tm asd)]), .val (.one (.vec 3))] [.vec false 50 m [.ints .u64 pa, .ints .u32 pw], .vec false 24 q [.ints .u32 vas]] r) := by
  have hx : (n < 1 ∨ 65536 < n) ∨ (¬ (n < 1 ∨ 65536 < n)) := by
    by_cases h : n < 1 ∨ 65536 < n
    · exact .inl h
    · exact .inr h
  rcases hx with h | h
  · exact ⟨_, List.mem_cons_self, h, fun hn => ⟨trivial, rdsC_p0 n m pa pw on tre afe pd0 pd1 cn b0 b1 da pr nm asd q vas h hn⟩⟩
  · exact ⟨_, (List.mem_cons_of_mem _ List.mem_cons_self), h, fun hn => ⟨trivial, rdsC_p1 n m pa pw on tre afe pd0 pd1 cn b0 b1 da pr nm asd q vas h hn⟩⟩
theorem rdsC_ok : rdsC.ok Tryd.prog GTab := by
  refine con_ok (cs := [beginC, readsC, rreadsC, eq9C]) (body := (Tryd.f4.body).getD .skip) ?_ Tryd.func4 rfl ?_
  · intro c h
    simp only [List.mem_cons, List.not_mem_nil, or_false] at h
    rcases h with rfl | rfl | rfl | rfl
    · exact beginC_ok
    · exact readsC_ok
    · exact rreadsC_ok
    · exact eq9C_ok
  · intro args h l hl
    unfold rdsC at hl
    dsimp only at hl
    split at hl
    · cases hl
      exact rdsC_ch _ _ _ _ _ _ _ _ _ _ _ _ _ _ _ _ _ _
    · cases hl
end Go.Proofs.YtpdijogpbnaplaaDoor.con
namespace Go.Proofs.YtpdijogpbnaplaaDoor.walkReads
open Go Go.Proofs.YtpdijogpbnaplaaDoorHz Go.ChangeShapes Go.WideShapes Go.ChangeAt Go.RowKit
set_option maxRecDepth 100000
theorem own : ownKnob Tryd.prog.godebug = none := by kernel_rfl
def laid : List (String × DataW Unit) := [("atlas/desc.shifts", Rows.laid_atlas_desc_shifts), ("atlas/desc.kinds", Rows.laid_atlas_desc_kinds)]
theorem tab : tables Tryd.prog laid = some con.GTab := by kernel_rfl
theorem door_met (os : Os) (args : Array Value) : laidMetH Tryd.prog laid ((World.doorLaid Tryd.prog 400 os).forCall (fun _ _ => 0) ⟨#[], args, []⟩).memory :=
  laidMetH_of_parts3 (fuel := 8) (laidMet_of_run' 8 (by kernel_rfl) (by kernel_rfl)) (by kernel_rfl) (by kernel_rfl)
theorem law : LawOk con.rdsC 2 [.one (.int .i64), .list 50 16 [.int .u64, .int .u32], .agg [.bool, .bool, .bool, .int .i64, .bool, .bool, .int .u64, .int .u64, .int .u32, .int .u32, .int .u32, .int .i64], .list 24 4 [.int .u32]] := by
  rintro vs h ⟨l0, vs1, rfl, ⟨n, rfl, _, _⟩, m, cols, vs2, h2, rfl, rfl, hm, hc, ls, vs3, rfl, hls, q, cols2, vs4, h4, rfl, rfl, hq, hc2, rfl, rfl⟩
  obtain ⟨_, cr0, rfl, ⟨pa, rfl, q1⟩, ch0⟩ := con.all2_cons hc
  obtain ⟨_, cr1, rfl, ⟨pw, rfl, q2⟩, ch1⟩ := con.all2_cons ch0
  cases con.all2_nil ch1
  obtain ⟨_, xr0, rfl, ⟨on, rfl⟩, xh0⟩ := con.all2_cons hls
  obtain ⟨_, xr1, rfl, ⟨tre, rfl⟩, xh1⟩ := con.all2_cons xh0
  obtain ⟨_, xr2, rfl, ⟨afe, rfl⟩, xh2⟩ := con.all2_cons xh1
  obtain ⟨_, xr3, rfl, ⟨cn, rfl, _⟩, xh3⟩ := con.all2_cons xh2
  obtain ⟨_, xr4, rfl, ⟨pd0, rfl⟩, xh4⟩ := con.all2_cons xh3
  obtain ⟨_, xr5, rfl, ⟨pd1, rfl⟩, xh5⟩ := con.all2_cons xh4
  obtain ⟨_, xr6, rfl, ⟨b0, rfl, y7⟩, xh6⟩ := con.all2_cons xh5
  obtain ⟨_, xr7, rfl, ⟨b1, rfl, y8⟩, xh7⟩ := con.all2_cons xh6
  obtain ⟨_, xr8, rfl, ⟨da, rfl, y9⟩, xh8⟩ := con.all2_cons xh7
  obtain ⟨_, xr9, rfl, ⟨pr, rfl, _⟩, xh9⟩ := con.all2_cons xh8
  obtain ⟨_, xr10, rfl, ⟨nm, rfl, _⟩, xh10⟩ := con.all2_cons xh9
  obtain ⟨_, xr11, rfl, ⟨asd, rfl, _⟩, xh11⟩ := con.all2_cons xh10
  cases con.all2_nil xh11
  obtain ⟨_, vr0, rfl, ⟨vas, rfl, q3⟩, vh0⟩ := con.all2_cons hc2
  cases con.all2_nil vh0
  have hneed : (m : Int) ≤ 9223372036854775807 ∧ (∀ i, i < m → 0 ≤ pa i ∧ 0 ≤ pw i ∧ pw i ≤ 4294967295) ∧ 0 ≤ b0 ∧ b0 < 18446744073709551616 ∧ 0 ≤ b1 ∧ b1 < 18446744073709551616 ∧ (q : Int) ≤ 9223372036854775807 ∧ (∀ i, i < q → 0 ≤ vas i ∧ vas i < 4294967296) :=
    ⟨by omega, fun i hi => ⟨(q1 i hi).1, (q2 i hi).1, (q2 i hi).2⟩, y7.1, Int.lt_of_le_of_lt y7.2 (by decide), y8.1, Int.lt_of_le_of_lt y8.2 (by decide), by omega, fun i hi => ⟨(q3 i hi).1, Int.lt_of_le_of_lt (q3 i hi).2 (by decide)⟩⟩
  refine ⟨_, rfl, fun r hr => ?_⟩
  simp only [List.mem_cons, List.not_mem_nil, or_false] at hr
  rcases hr with rfl | rfl
  · exact ⟨hneed, fun v objs h => h.1⟩
  · exact ⟨hneed, fun v objs h => h.1⟩
theorem lifted (os : Os) (started : os.Started) (H : Type) (enc : TypeId × Value → H) :
    ReturnsInHanded {} Tryd.checked os 4 .any (fun w args => (Rows.walkReadsSpec.pre enc Tryd.prog Tryd.f4 [] false w args ∧ laidMetH Tryd.prog laid w) ∧ sizedMet enc Tryd.prog Tryd.f4 (OpenSpec.ofChange Rows.walkReadsSpec) false w args)
      (Rows.walkReadsSpec.post enc Tryd.prog Tryd.f4 false true false false) := by
  refine returnsInHanded_of_change_and (C := Tryd.checked) (X := fun w _ => laidMetH Tryd.prog laid w) (fun _ _ _ hh h => h.of_heap hh) own started (by kernel_rfl) Tryd.func4
    (ChangeSpec.witness_shaped (enc := enc) (C := Tryd.checked) (os := os) (X := fun w _ => laidMetH Tryd.prog laid w) false (World.doorLaid Tryd.prog 400 os) #[.int .i64 0, .slice none 0 0, .agg #[.bool false, .bool false, .bool false, .int .i64 0, .bool false, .bool false, .int .u64 0, .int .u64 0, .int .u32 0, .int .u32 0, .int .u32 0, .int .i64 0], .slice none 0 0] 8 rfl (World.shaped_of_RefB (by kernel_rfl) (by kernel_rfl)) (by kernel_rfl) (by kernel_rfl) (by kernel_rfl) (door_met os _)) ?_
  intro W base args ds gs before hval hW _ hsz hL _
  exact row_true con.rdsC_ok law (ts := [3, 22, 26, 27]) (by rfl) (by rw [Tryd.params4]) (by kernel_rfl) rfl (by kernel_rfl) (by kernel_rfl) Tryd.underlying4
    (fun ds h => by match ds, h with | [_, _, _, _], _ => rfl) hval hW hsz (globOk_laid tab (by kernel_rfl) hL)
theorem said : Rows.WalkReadsSaid :=
  OpenClaim.holds_of_wide 4 Tryd.f4 rfl rfl rfl rfl rfl rfl rfl ⟨rfl, rfl, rfl, rfl, rfl⟩ rfl rfl rfl rfl rfl (by kernel_rfl) Tryd.func4 (by kernel_rfl)
    (of_decide_eq_true (by kernel_rfl)) (by unfold Func.isWrapper; first | (rw [if_pos (by decide +kernel)]; kernel_rfl) | (rw [if_neg (by decide +kernel)]; exact ⟨rfl, rfl⟩))
    (fun os started H enc _ => lifted os started H enc)
theorem proved : Rows.WalkReadsCardSaid :=
  Claim7.holds_tied_plain_at .later [] [.data, .data] true (true, "27e54810958e54f1f2357575faaf8b8752fef5ab3b70b0458ed35634ab7a82a5") false
    said (fun _ h => by cases h) (by kernel_rfl) (fun _ h => by cases h) walkReads_row_tie rfl ⟨rfl, rfl⟩ (by kernel_rfl) rfl
    (fun f fn hf hfn => by
      obtain rfl : f = 4 := Option.some.inj ((show Tryd.prog.funcNamed "atlas/atlaslaw09.WalkReads" = some 4 by kernel_rfl).symm.trans hf) |>.symm
      obtain rfl : fn = Tryd.f4 := (Option.some.inj (Tryd.func4.symm.trans hfn)).symm
      exact ⟨by kernel_rfl, fun j t ht => by
        rw [Tryd.params4] at ht
        have hm : t ∈ [3, 22, 26, 27] := by simpa using Array.mem_of_getElem? ht
        have hall : ([3, 22, 26, 27].all fun u => !Tryd.prog.wantsStandIn u) = true := by kernel_rfl
        exact (show Tryd.prog.wantsStandIn t = false by simpa using List.all_eq_true.1 hall t hm)⟩)
    (by kernel_rfl)
#print axioms proved
end Go.Proofs.YtpdijogpbnaplaaDoor.walkReads
