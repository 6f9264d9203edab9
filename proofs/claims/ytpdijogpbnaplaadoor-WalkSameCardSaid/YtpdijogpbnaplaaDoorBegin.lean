/- Two memories are begun, and words are written into both; two lists are compared. -/
import Derived.Test.YtpdijogpbnaplaaDoorWay
import Derived.KernelRfl
namespace Go.Proofs.YtpdijogpbnaplaaDoor.con
open Go Go.Proofs.YtpdijogpbnaplaaDoorHz
set_option maxRecDepth 100000
set_option maxHeartbeats 4000000
/-- a memory of the program and the document's -/
structure W1 where
  p : PM
  r : RM
structure W1.Inv (n : Int) (x : W1) : Prop where
  p : x.p.Inv n
  r : x.r.Inv n
  e : ∀ b, 0 ≤ b → x.p.at_ b = x.r.at_ b
def W1.new : W1 := ⟨⟨fun _ => false, fun _ => 0, fun _ => 4096, fun _ => false, fun _ _ => 0⟩, ⟨0, fun _ => 0, fun _ => 0, fun _ => 4096, fun _ => 4096, fun _ => false, fun _ _ => 0⟩⟩
theorem W1.new_inv (n : Int) : W1.new.Inv n :=
  ⟨inv_none n, ⟨fun _ => rfl, fun i h => absurd h (Nat.not_lt_zero _), fun i h => absurd h (Nat.not_lt_zero _), fun i j h => absurd h (Nat.not_lt_zero _), fun i j h => absurd h (Nat.not_lt_zero _), fun b j h => by cases h⟩, fun b _ => (by simp [PM.at_] : PM.at_ ⟨fun _ => false, fun _ => 0, fun _ => 4096, fun _ => false, fun _ _ => 0⟩ b = 0).trans (RM.at_none (fun i h => absurd h (Nat.not_lt_zero _))).symm⟩
theorem W1.Inv.walk {n : Int} {x : W1} (h : x.Inv n) (c : Cx9) (va : Int) : walkS n x.r.at_ c va = walkS n x.p.at_ c va := walkS_same (fun b hb => (h.e b hb).symm) c va
theorem wr_same3 {f g : Int → Int} {n a v b : Int} (he : ∀ b, 0 ≤ b → f b = g b) (hb : 0 ≤ b) : wrA n f a 4 v b = wrA n g a 4 v b := by
  unfold wrA setF
  rw [he b hb]
theorem eq_or9 (N M : Nat) (f g : Nat → Int) : (N = M ∧ ∀ j, j < N → f j = g j) ∨ ¬ (N = M ∧ ∀ j, j < N → f j = g j) := Classical.em _
theorem walk_m (n : Int) (f : Int → Int) (c : Cx9) (va : Int) : (walkS n f c va).m ≤ 2 := by
  unfold walkS
  repeat' split
  all_goals (dsimp only; omega)
theorem all2_cons {α β : Type} {R : α → β → Prop} {c : α} {cs : List α} {ls : List β} (h : All2 R (c :: cs) ls) : ∃ l ls', ls = l :: ls' ∧ R c l ∧ All2 R cs ls' := by
  cases ls with
  | nil => exact h.elim
  | cons l r => exact ⟨l, r, rfl, h.1, h.2⟩
theorem all2_nil {α β : Type} {R : α → β → Prop} {ls : List β} (h : All2 R [] ls) : ls = [] := by
  cases ls with
  | nil => rfl
  | cons l r => exact h.elim
noncomputable def beginC : Con := ⟨12, fun args h => match args, h with
  | [.val (.one (.int .i64 (.tm n))), .val (.one (.vec 2))], [.vec false 50 m [.ints .u64 pa, .ints .u32 pw]] => some [⟨some (n < 1 ∨ 65536 < n), none, .det (.tup [.one (.cst (.pointer none)), .one (.bool (.lit true))]) ([.vec false 50 m [.ints .u64 pa, .ints .u32 pw]])⟩, ⟨some (¬ (n < 1 ∨ 65536 < n)), some ((m : Int) ≤ 9223372036854775807 ∧ (∀ i, i < m → 0 ≤ pa i ∧ 0 ≤ pw i ∧ pw i ≤ 4294967295)), .rel W1 8 (fun x => some (x.Inv n)) (fun x => .tup [.one (.ptr 3 0), .one (.bool (.lit true))]) (fun x => [.vec false 50 m [.ints .u64 pa, .ints .u32 pw], .mem true [.cells [.ptr 4 0, .ptr 7 0]], .mem true [.cells [.int .i64 (.tm ((n : Int))), .map 5]], .mp true .i64 false x.p.has [.fptrs 6 x.p.bb], .fam true 136 .u8 x.p.ln x.p.dom x.p.g, .mem true [.cells [.int .i64 (.tm ((n : Int))), .vec 8]], .vec true 152 x.r.cnt [.ints .i64 x.r.no, .fsubs 9 x.r.bb (fun _ => 0) x.r.sl], .fam true 5 .u8 x.r.ln x.r.dom x.r.g])⟩]
  | _, _ => none, true⟩
theorem beginC_p0 (n : Int) (m : Nat) (pa pw : Nat → Int) (hg : n < 1 ∨ 65536 < n) : ∃ anns, fnVC Tryd.prog GTab (callOf Tryd.prog GTab [newC, rnewC, setWordC, rsetWordC]) anns Tryd.f12 ((Tryd.f12.body).getD .skip) [.val (.one (.int .i64 (.tm n))), .val (.one (.vec 2))] [.vec false 50 m [.ints .u64 pa, .ints .u32 pw]] ⟨some (n < 1 ∨ 65536 < n), none, .det (.tup [.one (.cst (.pointer none)), .one (.bool (.lit true))]) ([.vec false 50 m [.ints .u64 pa, .ints .u32 pw]])⟩ := by
  refine ⟨⟨[], [], [], [], [(13, 0), (18, 0)], [], []⟩, ?_⟩
  rw [show fnVC Tryd.prog GTab (callOf Tryd.prog GTab [newC, rnewC, setWordC, rsetWordC]) ⟨[], [], [], [], [(13, 0), (18, 0)], [], []⟩ Tryd.f12 ((Tryd.f12.body).getD .skip) [.val (.one (.int .i64 (.tm n))), .val (.one (.vec 2))] [.vec false 50 m [.ints .u64 pa, .ints .u32 pw]] ⟨some (n < 1 ∨ 65536 < n), none, .det (.tup [.one (.cst (.pointer none)), .one (.bool (.lit true))]) ([.vec false 50 m [.ints .u64 pa, .ints .u32 pw]])⟩ = (((n < (1 : Int) ∨ (65536 : Int) < n → False) → False) ∧ (n < (1 : Int) ∨ (65536 : Int) < n → ((n < (1 : Int) ∨ (65536 : Int) < n → False) → False) ∧ (n < (1 : Int) ∨ (65536 : Int) < n → L.cst (Value.pointer none) = L.cst (Value.pointer none) ∧ m = m ∧ (∀ (i : Nat), i < m → pa i = pa i) ∧ ∀ (i : Nat), i < m → pw i = pw i))) from by kernel_rfl]
  exact ⟨fun h => h hg, fun _ => ⟨fun h => h hg, fun _ => ⟨rfl, ⟨rfl, fun _ _ => rfl, fun _ _ => rfl⟩⟩⟩⟩
theorem beginC_p1 (n : Int) (m : Nat) (pa pw : Nat → Int) (hg : ¬ (n < 1 ∨ 65536 < n)) (hn : (m : Int) ≤ 9223372036854775807 ∧ (∀ i, i < m → 0 ≤ pa i ∧ 0 ≤ pw i ∧ pw i ≤ 4294967295)) : ∃ anns, fnVC Tryd.prog GTab (callOf Tryd.prog GTab [newC, rnewC, setWordC, rsetWordC]) anns Tryd.f12 ((Tryd.f12.body).getD .skip) [.val (.one (.int .i64 (.tm n))), .val (.one (.vec 2))] [.vec false 50 m [.ints .u64 pa, .ints .u32 pw]] ⟨some (¬ (n < 1 ∨ 65536 < n)), some ((m : Int) ≤ 9223372036854775807 ∧ (∀ i, i < m → 0 ≤ pa i ∧ 0 ≤ pw i ∧ pw i ≤ 4294967295)), .rel W1 8 (fun x => some (x.Inv n)) (fun x => .tup [.one (.ptr 3 0), .one (.bool (.lit true))]) (fun x => [.vec false 50 m [.ints .u64 pa, .ints .u32 pw], .mem true [.cells [.ptr 4 0, .ptr 7 0]], .mem true [.cells [.int .i64 (.tm ((n : Int))), .map 5]], .mp true .i64 false x.p.has [.fptrs 6 x.p.bb], .fam true 136 .u8 x.p.ln x.p.dom x.p.g, .mem true [.cells [.int .i64 (.tm ((n : Int))), .vec 8]], .vec true 152 x.r.cnt [.ints .i64 x.r.no, .fsubs 9 x.r.bb (fun _ => 0) x.r.sl], .fam true 5 .u8 x.r.ln x.r.dom x.r.g])⟩ := by
  refine ⟨⟨[⟨W1 × Nat, fun σ x => setM [(3, .mem true [.cells [.int .i64 (.tm ((n : Int))), .map 4]]), (4, .mp true .i64 false x.1.p.has [.fptrs 5 x.1.p.bb]), (5, .fam true 136 .u8 x.1.p.ln x.1.p.dom x.1.p.g), (6, .mem true [.cells [.int .i64 (.tm ((n : Int))), .vec 7]]), (7, .vec true 152 x.1.r.cnt [.ints .i64 x.1.r.no, .fsubs 8 x.1.r.bb (fun _ => 0) x.1.r.sl]), (8, .fam true 5 .u8 x.1.r.ln x.1.r.dom x.1.r.g)] (setT [(10, .val (.one (.int .i64 (.tm ((x.2 : Int))))))] σ), fun _ x => x.1.Inv n ∧ x.2 ≤ m, fun x => m - x.2⟩], [], [], [20, 36], [(13, 1), (18, 1)], [], []⟩, ?_⟩
  rw [show fnVC Tryd.prog GTab (callOf Tryd.prog GTab [newC, rnewC, setWordC, rsetWordC]) ⟨[⟨W1 × Nat, fun σ x => setM [(3, .mem true [.cells [.int .i64 (.tm ((n : Int))), .map 4]]), (4, .mp true .i64 false x.1.p.has [.fptrs 5 x.1.p.bb]), (5, .fam true 136 .u8 x.1.p.ln x.1.p.dom x.1.p.g), (6, .mem true [.cells [.int .i64 (.tm ((n : Int))), .vec 7]]), (7, .vec true 152 x.1.r.cnt [.ints .i64 x.1.r.no, .fsubs 8 x.1.r.bb (fun _ => 0) x.1.r.sl]), (8, .fam true 5 .u8 x.1.r.ln x.1.r.dom x.1.r.g)] (setT [(10, .val (.one (.int .i64 (.tm ((x.2 : Int))))))] σ), fun _ x => x.1.Inv n ∧ x.2 ≤ m, fun x => m - x.2⟩], [], [], [20, 36], [(13, 1), (18, 1)], [], []⟩ Tryd.f12 ((Tryd.f12.body).getD .skip) [.val (.one (.int .i64 (.tm n))), .val (.one (.vec 2))] [.vec false 50 m [.ints .u64 pa, .ints .u32 pw]] ⟨some (¬ (n < 1 ∨ 65536 < n)), some ((m : Int) ≤ 9223372036854775807 ∧ (∀ i, i < m → 0 ≤ pa i ∧ 0 ≤ pw i ∧ pw i ≤ 4294967295)), .rel W1 8 (fun x => some (x.Inv n)) (fun x => .tup [.one (.ptr 3 0), .one (.bool (.lit true))]) (fun x => [.vec false 50 m [.ints .u64 pa, .ints .u32 pw], .mem true [.cells [.ptr 4 0, .ptr 7 0]], .mem true [.cells [.int .i64 (.tm ((n : Int))), .map 5]], .mp true .i64 false x.p.has [.fptrs 6 x.p.bb], .fam true 136 .u8 x.p.ln x.p.dom x.p.g, .mem true [.cells [.int .i64 (.tm ((n : Int))), .vec 8]], .vec true 152 x.r.cnt [.ints .i64 x.r.no, .fsubs 9 x.r.bb (fun _ => 0) x.r.sl], .fam true 5 .u8 x.r.ln x.r.dom x.r.g])⟩ = ((n < (1 : Int) ∨ (65536 : Int) < n → False) ∧ ((n < (1 : Int) ∨ (65536 : Int) < n → False) → (n < (1 : Int) ∨ (65536 : Int) < n → False) ∧ ((n < (1 : Int) ∨ (65536 : Int) < n → False) → (∃ (x : W1 × Nat), (W1.Inv n x.fst ∧ x.snd ≤ m) ∧ (n = n ∧ (0 : Int) = (↑x.snd : Int) ∧ n = n ∧ n = n) ∧ (m = m ∧ (∀ (i : Nat), i < m → pa i = pa i) ∧ ∀ (i : Nat), i < m → pw i = pw i) ∧ n = n ∧ ((∀ (i : Int), false = x.fst.p.has i) ∧ ∀ (i : Int), false = true → (0 : Nat) = x.fst.p.bb i) ∧ (∀ (b : Nat), x.fst.p.dom b = true → false = true ∧ x.fst.p.ln b = (4096 : Nat) ∧ ∀ (j : Nat), j < x.fst.p.ln b → (0 : Int) = x.fst.p.g b j) ∧ n = n ∧ ((0 : Nat) = x.fst.r.cnt ∧ (∀ (i : Nat), i < (0 : Nat) → (0 : Int) = x.fst.r.no i) ∧ ∀ (i : Nat), i < (0 : Nat) → (0 : Nat) = x.fst.r.bb i ∧ (0 : Nat) = (0 : Nat) ∧ (0 : Nat) = x.fst.r.sl i) ∧ ∀ (b : Nat), x.fst.r.dom b = true → false = true ∧ x.fst.r.ln b = (4096 : Nat) ∧ ∀ (j : Nat), j < x.fst.r.ln b → (0 : Int) = x.fst.r.g b j) ∧ ∀ (x : W1 × Nat), W1.Inv n x.fst ∧ x.snd ≤ m → (decide ((↑x.snd : Int) < (↑m : Int)) = true → ((0 : Int) ≤ (↑x.snd : Int) ∧ (↑x.snd : Int) < (↑m : Int)) ∧ (↑x.snd : Int).toNat < m ∧ ((0 : Int) ≤ (↑x.snd : Int) ∧ (↑x.snd : Int) < (↑m : Int)) ∧ (↑x.snd : Int).toNat < m ∧ ((0 : Int) ≤ (↑x.snd : Int) ∧ (↑x.snd : Int) < (↑m : Int)) ∧ (↑x.snd : Int).toNat < m ∧ ((0 : Int) ≤ (↑x.snd : Int) ∧ (↑x.snd : Int) < (↑m : Int)) ∧ (↑x.snd : Int).toNat < m ∧ (PM.Inv n x.fst.p ∧ n ≤ (65536 : Int) ∧ (0 : Int) ≤ n ∧ (0 : Int) ≤ pa (↑x.snd : Int).toNat ∧ (0 : Int) ≤ pw (↑x.snd : Int).toNat ∧ pw (↑x.snd : Int).toNat ≤ (4294967295 : Int)) ∧ ∀ (x_1 : PM), (PM.Inv n x_1 ∧ ∀ (b : Int), (0 : Int) ≤ b → x_1.at_ b = wrA n x.fst.p.at_ (pa (↑x.snd : Int).toNat) (4 : Int) (pw (↑x.snd : Int).toNat) b) → (RM.Inv n x.fst.r ∧ (∀ (i : Nat), i < x.fst.r.cnt → (0 : Nat) = (0 : Nat)) ∧ n ≤ (65536 : Int) ∧ (0 : Int) ≤ n ∧ (0 : Int) ≤ pa (↑x.snd : Int).toNat ∧ (0 : Int) ≤ pw (↑x.snd : Int).toNat ∧ pw (↑x.snd : Int).toNat ≤ (4294967295 : Int)) ∧ ∀ (x_2 : RM), (RM.Inv n x_2 ∧ ∀ (b : Int), (0 : Int) ≤ b → x_2.at_ b = wrA n x.fst.r.at_ (pa (↑x.snd : Int).toNat) (4 : Int) (pw (↑x.snd : Int).toNat) b) → ((!decide (err n (pa (↑x.snd : Int).toNat) (4 : Int) = err n (pa (↑x.snd : Int).toNat) (4 : Int))) = true → ∃ (x : W1), W1.Inv n x ∧ (L.cst (Value.pointer none) = L.ptr (3 : Nat) (0 : Nat) ∧ False) ∧ (m = m ∧ (∀ (i : Nat), i < m → pa i = pa i) ∧ ∀ (i : Nat), i < m → pw i = pw i) ∧ (L.int IntKind.i64 (N.tm n) = L.ptr (4 : Nat) (0 : Nat) ∧ L.map (nat_lit 4) = L.ptr (7 : Nat) (0 : Nat)) ∧ False ∧ False ∧ (∀ (b : Nat), x.p.dom b = true → false = true ∧ x.p.ln b = x.p.ln b ∧ ∀ (j : Nat), j < x.p.ln b → (0 : Int) = x.p.g b j) ∧ False ∧ False ∧ ∀ (b : Nat), x.r.dom b = true → false = true ∧ x.r.ln b = x.r.ln b ∧ ∀ (j : Nat), j < x.r.ln b → (0 : Int) = x.r.g b j) ∧ ((!decide (err n (pa (↑x.snd : Int).toNat) (4 : Int) = err n (pa (↑x.snd : Int).toNat) (4 : Int))) = false → ∃ (y : W1 × Nat), (W1.Inv n y.fst ∧ y.snd ≤ m) ∧ m - y.snd < m - x.snd ∧ (n = n ∧ IntKind.i64.wrap ((↑x.snd : Int) + (1 : Int)) = (↑y.snd : Int) ∧ n = n ∧ n = n) ∧ (m = m ∧ (∀ (i : Nat), i < m → pa i = pa i) ∧ ∀ (i : Nat), i < m → pw i = pw i) ∧ n = n ∧ ((∀ (i : Int), x_1.has i = y.fst.p.has i) ∧ ∀ (i : Int), x_1.has i = true → x_1.bb i = y.fst.p.bb i) ∧ (∀ (b : Nat), y.fst.p.dom b = true → x_1.dom b = true ∧ y.fst.p.ln b = x_1.ln b ∧ ∀ (j : Nat), j < y.fst.p.ln b → x_1.g b j = y.fst.p.g b j) ∧ n = n ∧ (x_2.cnt = y.fst.r.cnt ∧ (∀ (i : Nat), i < x_2.cnt → x_2.no i = y.fst.r.no i) ∧ ∀ (i : Nat), i < x_2.cnt → x_2.bb i = y.fst.r.bb i ∧ (0 : Nat) = (0 : Nat) ∧ x_2.sl i = y.fst.r.sl i) ∧ ∀ (b : Nat), y.fst.r.dom b = true → x_2.dom b = true ∧ y.fst.r.ln b = x_2.ln b ∧ ∀ (j : Nat), j < y.fst.r.ln b → x_2.g b j = y.fst.r.g b j)) ∧ (decide ((↑x.snd : Int) < (↑m : Int)) = false → ∃ (x_1 : W1), W1.Inv n x_1 ∧ (m = m ∧ (∀ (i : Nat), i < m → pa i = pa i) ∧ ∀ (i : Nat), i < m → pw i = pw i) ∧ n = n ∧ ((∀ (i : Int), x.fst.p.has i = x_1.p.has i) ∧ ∀ (i : Int), x.fst.p.has i = true → x.fst.p.bb i = x_1.p.bb i) ∧ (∀ (b : Nat), x_1.p.dom b = true → x.fst.p.dom b = true ∧ x_1.p.ln b = x.fst.p.ln b ∧ ∀ (j : Nat), j < x_1.p.ln b → x.fst.p.g b j = x_1.p.g b j) ∧ n = n ∧ (x.fst.r.cnt = x_1.r.cnt ∧ (∀ (i : Nat), i < x.fst.r.cnt → x.fst.r.no i = x_1.r.no i) ∧ ∀ (i : Nat), i < x.fst.r.cnt → x.fst.r.bb i = x_1.r.bb i ∧ (0 : Nat) = (0 : Nat) ∧ x.fst.r.sl i = x_1.r.sl i) ∧ ∀ (b : Nat), x_1.r.dom b = true → x.fst.r.dom b = true ∧ x_1.r.ln b = x.fst.r.ln b ∧ ∀ (j : Nat), j < x_1.r.ln b → x.fst.r.g b j = x_1.r.g b j)))) from by kernel_rfl]
  obtain ⟨hm, hp⟩ := hn
  have hg1 : 1 ≤ n ∧ n ≤ 65536 := by omega
  refine ⟨hg, fun _ => ⟨hg, fun _ => ⟨⟨(W1.new, 0), ⟨W1.new_inv n, Nat.zero_le _⟩, ⟨rfl, rfl, rfl, rfl⟩, ⟨rfl, fun _ _ => rfl, fun _ _ => rfl⟩, rfl, ⟨fun _ => rfl, fun _ _ => rfl⟩, (fun _ h => ⟨h, rfl, fun _ _ => rfl⟩), rfl, ⟨rfl, fun _ _ => rfl, fun _ h => absurd h (Nat.not_lt_zero _)⟩, (fun _ h => ⟨h, rfl, fun _ _ => rfl⟩)⟩, fun x hx => ⟨fun hlt => ?_, fun _ => ⟨x.1, hx.1, ⟨rfl, fun _ _ => rfl, fun _ _ => rfl⟩, rfl, ⟨fun _ => rfl, fun _ _ => rfl⟩, (fun _ h => ⟨h, rfl, fun _ _ => rfl⟩), rfl, ⟨rfl, fun _ _ => rfl, fun _ _ => ⟨rfl, rfl, rfl⟩⟩, (fun _ h => ⟨h, rfl, fun _ _ => rfl⟩)⟩⟩⟩⟩⟩
  have hlt := of_decide_eq_true hlt
  have e : ((x.2 : Int)).toNat = x.2 := Int.toNat_natCast _
  have hx2 : x.2 < m := by omega
  obtain ⟨p1, p2, p3⟩ := hp x.2 hx2
  rw [e]
  refine ⟨⟨by omega, hlt⟩, hx2, ⟨by omega, hlt⟩, hx2, ⟨by omega, hlt⟩, hx2, ⟨by omega, hlt⟩, hx2, ⟨hx.1.p, by omega, by omega, p1, p2, p3⟩, fun p' hp' => ⟨⟨hx.1.r, fun _ _ => rfl, by omega, by omega, p1, p2, p3⟩, fun r' hr' => ⟨fun h => by simp at h, fun _ => ⟨(⟨p', r'⟩, x.2 + 1), ⟨⟨hp'.1, hr'.1, fun b hb => ?_⟩, hx2⟩, by show m - (x.2 + 1) < m - x.2; omega, ⟨rfl, ?_, rfl, rfl⟩, ⟨rfl, fun _ _ => rfl, fun _ _ => rfl⟩, rfl, ⟨fun _ => rfl, fun _ _ => rfl⟩, (fun _ h => ⟨h, rfl, fun _ _ => rfl⟩), rfl, ⟨rfl, fun _ _ => rfl, fun _ _ => ⟨rfl, rfl, rfl⟩⟩, (fun _ h => ⟨h, rfl, fun _ _ => rfl⟩)⟩⟩⟩⟩
  · show p'.at_ b = r'.at_ b
    rw [hp'.2 b hb, hr'.2 b hb]
    exact wr_same3 hx.1.e hb
  · rw [wrap_i64 (by omega) (by omega)]; rfl
theorem beginC_ch (n : Int) (m : Nat) (pa pw : Nat → Int) : ∃ r ∈ ([⟨some (n < 1 ∨ 65536 < n), none, .det (.tup [.one (.cst (.pointer none)), .one (.bool (.lit true))]) ([.vec false 50 m [.ints .u64 pa, .ints .u32 pw]])⟩, ⟨some (¬ (n < 1 ∨ 65536 < n)), some ((m : Int) ≤ 9223372036854775807 ∧ (∀ i, i < m → 0 ≤ pa i ∧ 0 ≤ pw i ∧ pw i ≤ 4294967295)), .rel W1 8 (fun x => some (x.Inv n)) (fun x => .tup [.one (.ptr 3 0), .one (.bool (.lit true))]) (fun x => [.vec false 50 m [.ints .u64 pa, .ints .u32 pw], .mem true [.cells [.ptr 4 0, .ptr 7 0]], .mem true [.cells [.int .i64 (.tm ((n : Int))), .map 5]], .mp true .i64 false x.p.has [.fptrs 6 x.p.bb], .fam true 136 .u8 x.p.ln x.p.dom x.p.g, .mem true [.cells [.int .i64 (.tm ((n : Int))), .vec 8]], .vec true 152 x.r.cnt [.ints .i64 x.r.no, .fsubs 9 x.r.bb (fun _ => 0) x.r.sl], .fam true 5 .u8 x.r.ln x.r.dom x.r.g])⟩] : List Res), holdsP r.g ∧ (holdsP r.need → r.r.shaped [.vec false 50 m [.ints .u64 pa, .ints .u32 pw]] ∧ ∃ anns, fnVC Tryd.prog GTab (callOf Tryd.prog GTab [newC, rnewC, setWordC, rsetWordC]) anns Tryd.f12 ((Tryd.f12.body).getD .skip) [.val (.one (.int .i64 (.tm n))), .val (.one (.vec 2))] [.vec false 50 m [.ints .u64 pa, .ints .u32 pw]] r) := by
  have hx : (n < 1 ∨ 65536 < n) ∨ (¬ (n < 1 ∨ 65536 < n)) := by
    by_cases h : n < 1 ∨ 65536 < n
    · exact .inl h
    · exact .inr h
  rcases hx with h | h
  · exact ⟨_, List.mem_cons_self, h, fun _ => ⟨trivial, beginC_p0 n m pa pw h⟩⟩
  · exact ⟨_, (List.mem_cons_of_mem _ List.mem_cons_self), h, fun hn => ⟨fun x _ => rfl, beginC_p1 n m pa pw h hn⟩⟩
theorem beginC_ok : beginC.ok Tryd.prog GTab := by
  refine con_ok (cs := [newC, rnewC, setWordC, rsetWordC]) (body := (Tryd.f12.body).getD .skip) ?_ Tryd.func12 rfl ?_
  · intro c h
    simp only [List.mem_cons, List.not_mem_nil, or_false] at h
    rcases h with rfl | rfl | rfl | rfl
    · exact newC_ok
    · exact rnewC_ok
    · exact setWordC_ok
    · exact rsetWordC_ok
  · intro args h l hl
    unfold beginC at hl
    dsimp only at hl
    split at hl
    · cases hl
      exact beginC_ch _ _ _ _
    · cases hl
noncomputable def eq9C : Con := ⟨15, fun args h => match args, h with
  | [.val (.one (.vec 2)), .val (.one (.vec 3))], [.vec false 23 N [.ints .u64 f], .vec false 23 M [.ints .u64 g]] => some [⟨some (N = M ∧ ∀ j, j < N → f j = g j), some ((N : Int) ≤ 9223372036854775807), .det (.val (.one (.bool (.lit true)))) ([.vec false 23 N [.ints .u64 f], .vec false 23 M [.ints .u64 g]])⟩, ⟨some (¬ (N = M ∧ ∀ j, j < N → f j = g j)), some ((N : Int) ≤ 9223372036854775807), .det (.val (.one (.bool (.lit false)))) ([.vec false 23 N [.ints .u64 f], .vec false 23 M [.ints .u64 g]])⟩]
  | _, _ => none, true⟩
theorem eq9C_p0 (N M : Nat) (f g : Nat → Int) (hg : N = M ∧ ∀ j, j < N → f j = g j) (hn : (N : Int) ≤ 9223372036854775807) : ∃ anns, fnVC Tryd.prog GTab (callOf Tryd.prog GTab []) anns Tryd.f15 ((Tryd.f15.body).getD .skip) [.val (.one (.vec 2)), .val (.one (.vec 3))] [.vec false 23 N [.ints .u64 f], .vec false 23 M [.ints .u64 g]] ⟨some (N = M ∧ ∀ j, j < N → f j = g j), some ((N : Int) ≤ 9223372036854775807), .det (.val (.one (.bool (.lit true)))) ([.vec false 23 N [.ints .u64 f], .vec false 23 M [.ints .u64 g]])⟩ := by
  refine ⟨⟨[⟨Nat, fun σ x => setT [(5, .val (.one (.int .i64 (.tm ((x : Int))))))] σ, fun _ x => x ≤ N ∧ ∀ j, j < x → f j = g j, fun x => N - x⟩], [], [], [], [], [], []⟩, ?_⟩
  rw [show fnVC Tryd.prog GTab (callOf Tryd.prog GTab []) ⟨[⟨Nat, fun σ x => setT [(5, .val (.one (.int .i64 (.tm ((x : Int))))))] σ, fun _ x => x ≤ N ∧ ∀ j, j < x → f j = g j, fun x => N - x⟩], [], [], [], [], [], []⟩ Tryd.f15 ((Tryd.f15.body).getD .skip) [.val (.one (.vec 2)), .val (.one (.vec 3))] [.vec false 23 N [.ints .u64 f], .vec false 23 M [.ints .u64 g]] ⟨some (N = M ∧ ∀ j, j < N → f j = g j), some ((N : Int) ≤ 9223372036854775807), .det (.val (.one (.bool (.lit true)))) ([.vec false 23 N [.ints .u64 f], .vec false 23 M [.ints .u64 g]])⟩ = (((!decide ((↑N : Int) = (↑M : Int))) = true → False ∧ (N = N ∧ ∀ (i : Nat), i < N → f i = f i) ∧ M = M ∧ ∀ (i : Nat), i < M → g i = g i) ∧ ((!decide ((↑N : Int) = (↑M : Int))) = false → (∃ (x : Nat), (x ≤ N ∧ ∀ (j : Nat), j < x → f j = g j) ∧ ((0 : Int) = (↑x : Int) ∧ (↑N : Int) = (↑N : Int) ∧ (↑M : Int) = (↑M : Int) ∧ (!decide ((↑N : Int) = (↑M : Int))) = !decide ((↑N : Int) = (↑M : Int))) ∧ (N = N ∧ ∀ (i : Nat), i < N → f i = f i) ∧ M = M ∧ ∀ (i : Nat), i < M → g i = g i) ∧ ∀ (x : Nat), (x ≤ N ∧ ∀ (j : Nat), j < x → f j = g j) → (decide ((↑x : Int) < (↑N : Int)) = true → ((0 : Int) ≤ (↑x : Int) ∧ (↑x : Int) < (↑N : Int)) ∧ (↑x : Int).toNat < N ∧ ((0 : Int) ≤ (↑x : Int) ∧ (↑x : Int) < (↑M : Int)) ∧ (↑x : Int).toNat < M ∧ ((!decide (f (↑x : Int).toNat = g (↑x : Int).toNat)) = true → False ∧ (N = N ∧ ∀ (i : Nat), i < N → f i = f i) ∧ M = M ∧ ∀ (i : Nat), i < M → g i = g i) ∧ ((!decide (f (↑x : Int).toNat = g (↑x : Int).toNat)) = false → ∃ (y : Nat), (y ≤ N ∧ ∀ (j : Nat), j < y → f j = g j) ∧ N - y < N - x ∧ (IntKind.i64.wrap ((↑x : Int) + (1 : Int)) = (↑y : Int) ∧ (↑N : Int) = (↑N : Int) ∧ (↑M : Int) = (↑M : Int) ∧ (!decide ((↑N : Int) = (↑M : Int))) = !decide ((↑N : Int) = (↑M : Int))) ∧ (N = N ∧ ∀ (i : Nat), i < N → f i = f i) ∧ M = M ∧ ∀ (i : Nat), i < M → g i = g i)) ∧ (decide ((↑x : Int) < (↑N : Int)) = false → (N = N ∧ ∀ (i : Nat), i < N → f i = f i) ∧ M = M ∧ ∀ (i : Nat), i < M → g i = g i))) from by kernel_rfl]
  obtain ⟨hl, he⟩ := hg
  subst hl
  refine ⟨fun h => by simp at h, fun _ => ⟨⟨0, ⟨Nat.zero_le _, fun j h => absurd h (Nat.not_lt_zero _)⟩, by simp⟩, fun x hx => ⟨fun h => ?_, fun h => by simp⟩⟩⟩
  have h : (x : Int) < (N : Int) := of_decide_eq_true h
  have hxN : x < N := by omega
  have hxe := he x hxN
  simp only [Int.toNat_natCast] at *
  refine ⟨⟨by omega, h⟩, hxN, ⟨by omega, h⟩, hxN, fun hb => ?_, fun _ => ⟨x + 1, ⟨by omega, fun j hj => he j (by omega)⟩, by omega, ?_⟩⟩
  · simp [hxe] at hb
  · rw [wrap_i64 (by omega) (by omega)]; simp
theorem eq9C_p1 (N M : Nat) (f g : Nat → Int) (hg : ¬ (N = M ∧ ∀ j, j < N → f j = g j)) (hn : (N : Int) ≤ 9223372036854775807) : ∃ anns, fnVC Tryd.prog GTab (callOf Tryd.prog GTab []) anns Tryd.f15 ((Tryd.f15.body).getD .skip) [.val (.one (.vec 2)), .val (.one (.vec 3))] [.vec false 23 N [.ints .u64 f], .vec false 23 M [.ints .u64 g]] ⟨some (¬ (N = M ∧ ∀ j, j < N → f j = g j)), some ((N : Int) ≤ 9223372036854775807), .det (.val (.one (.bool (.lit false)))) ([.vec false 23 N [.ints .u64 f], .vec false 23 M [.ints .u64 g]])⟩ := by
  refine ⟨⟨[⟨Nat, fun σ x => setT [(5, .val (.one (.int .i64 (.tm ((x : Int))))))] σ, fun _ x => x ≤ N ∧ ∀ j, j < x → f j = g j, fun x => N - x⟩], [], [], [], [], [], []⟩, ?_⟩
  rw [show fnVC Tryd.prog GTab (callOf Tryd.prog GTab []) ⟨[⟨Nat, fun σ x => setT [(5, .val (.one (.int .i64 (.tm ((x : Int))))))] σ, fun _ x => x ≤ N ∧ ∀ j, j < x → f j = g j, fun x => N - x⟩], [], [], [], [], [], []⟩ Tryd.f15 ((Tryd.f15.body).getD .skip) [.val (.one (.vec 2)), .val (.one (.vec 3))] [.vec false 23 N [.ints .u64 f], .vec false 23 M [.ints .u64 g]] ⟨some (¬ (N = M ∧ ∀ j, j < N → f j = g j)), some ((N : Int) ≤ 9223372036854775807), .det (.val (.one (.bool (.lit false)))) ([.vec false 23 N [.ints .u64 f], .vec false 23 M [.ints .u64 g]])⟩ = (((!decide ((↑N : Int) = (↑M : Int))) = true → (N = N ∧ ∀ (i : Nat), i < N → f i = f i) ∧ M = M ∧ ∀ (i : Nat), i < M → g i = g i) ∧ ((!decide ((↑N : Int) = (↑M : Int))) = false → (∃ (x : Nat), (x ≤ N ∧ ∀ (j : Nat), j < x → f j = g j) ∧ ((0 : Int) = (↑x : Int) ∧ (↑N : Int) = (↑N : Int) ∧ (↑M : Int) = (↑M : Int) ∧ (!decide ((↑N : Int) = (↑M : Int))) = !decide ((↑N : Int) = (↑M : Int))) ∧ (N = N ∧ ∀ (i : Nat), i < N → f i = f i) ∧ M = M ∧ ∀ (i : Nat), i < M → g i = g i) ∧ ∀ (x : Nat), (x ≤ N ∧ ∀ (j : Nat), j < x → f j = g j) → (decide ((↑x : Int) < (↑N : Int)) = true → ((0 : Int) ≤ (↑x : Int) ∧ (↑x : Int) < (↑N : Int)) ∧ (↑x : Int).toNat < N ∧ ((0 : Int) ≤ (↑x : Int) ∧ (↑x : Int) < (↑M : Int)) ∧ (↑x : Int).toNat < M ∧ ((!decide (f (↑x : Int).toNat = g (↑x : Int).toNat)) = true → (N = N ∧ ∀ (i : Nat), i < N → f i = f i) ∧ M = M ∧ ∀ (i : Nat), i < M → g i = g i) ∧ ((!decide (f (↑x : Int).toNat = g (↑x : Int).toNat)) = false → ∃ (y : Nat), (y ≤ N ∧ ∀ (j : Nat), j < y → f j = g j) ∧ N - y < N - x ∧ (IntKind.i64.wrap ((↑x : Int) + (1 : Int)) = (↑y : Int) ∧ (↑N : Int) = (↑N : Int) ∧ (↑M : Int) = (↑M : Int) ∧ (!decide ((↑N : Int) = (↑M : Int))) = !decide ((↑N : Int) = (↑M : Int))) ∧ (N = N ∧ ∀ (i : Nat), i < N → f i = f i) ∧ M = M ∧ ∀ (i : Nat), i < M → g i = g i)) ∧ (decide ((↑x : Int) < (↑N : Int)) = false → False ∧ (N = N ∧ ∀ (i : Nat), i < N → f i = f i) ∧ M = M ∧ ∀ (i : Nat), i < M → g i = g i))) from by kernel_rfl]
  refine ⟨fun _ => by simp, fun hne => ⟨⟨0, ⟨Nat.zero_le _, fun j h => absurd h (Nat.not_lt_zero _)⟩, by simp⟩, fun x hx => ⟨fun h => ?_, fun h => ?_⟩⟩⟩
  · have h : (x : Int) < (N : Int) := of_decide_eq_true h
    have hxN : x < N := by omega
    have hNM : (N : Int) = (M : Int) := by simpa using hne
    simp only [Int.toNat_natCast] at *
    refine ⟨⟨by omega, h⟩, hxN, ⟨by omega, by omega⟩, by omega, fun hb => by simp, fun hb => ⟨x + 1, ⟨by omega, fun j hj => ?_⟩, by omega, ?_⟩⟩
    · by_cases e : j = x
      · subst e; simpa using hb
      · exact hx.2 j (by omega)
    · rw [wrap_i64 (by omega) (by omega)]; simp
  · have h : ¬ (x : Int) < (N : Int) := of_decide_eq_false h
    have hNM : (N : Int) = (M : Int) := by simpa using hne
    have : x = N := by have := hx.1; omega
    subst this
    exact absurd ⟨by omega, hx.2⟩ hg
theorem eq9C_ch (N M : Nat) (f g : Nat → Int) : ∃ r ∈ ([⟨some (N = M ∧ ∀ j, j < N → f j = g j), some ((N : Int) ≤ 9223372036854775807), .det (.val (.one (.bool (.lit true)))) ([.vec false 23 N [.ints .u64 f], .vec false 23 M [.ints .u64 g]])⟩, ⟨some (¬ (N = M ∧ ∀ j, j < N → f j = g j)), some ((N : Int) ≤ 9223372036854775807), .det (.val (.one (.bool (.lit false)))) ([.vec false 23 N [.ints .u64 f], .vec false 23 M [.ints .u64 g]])⟩] : List Res), holdsP r.g ∧ (holdsP r.need → r.r.shaped [.vec false 23 N [.ints .u64 f], .vec false 23 M [.ints .u64 g]] ∧ ∃ anns, fnVC Tryd.prog GTab (callOf Tryd.prog GTab []) anns Tryd.f15 ((Tryd.f15.body).getD .skip) [.val (.one (.vec 2)), .val (.one (.vec 3))] [.vec false 23 N [.ints .u64 f], .vec false 23 M [.ints .u64 g]] r) := by
  have hx : (N = M ∧ ∀ j, j < N → f j = g j) ∨ (¬ (N = M ∧ ∀ j, j < N → f j = g j)) := by
    exact eq_or9 N M f g
  rcases hx with h | h
  · exact ⟨_, List.mem_cons_self, h, fun hn => ⟨trivial, eq9C_p0 N M f g h hn⟩⟩
  · exact ⟨_, (List.mem_cons_of_mem _ List.mem_cons_self), h, fun hn => ⟨trivial, eq9C_p1 N M f g h hn⟩⟩
theorem eq9C_ok : eq9C.ok Tryd.prog GTab := by
  refine con_ok (cs := []) (body := (Tryd.f15.body).getD .skip) ?_ Tryd.func15 rfl ?_
  · intro c h; cases h
  · intro args h l hl
    unfold eq9C at hl
    dsimp only at hl
    split at hl
    · cases hl
      exact eq9C_ch _ _ _ _
    · cases hl
end Go.Proofs.YtpdijogpbnaplaaDoor.con
