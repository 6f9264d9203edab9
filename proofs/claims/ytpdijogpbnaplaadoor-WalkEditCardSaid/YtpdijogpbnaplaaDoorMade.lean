/- A memory is made and words are written into it; the walk over it: what a word turns that no walk reads, and what one in its last descriptor does. -/
import Derived.Test.YtpdijogpbnaplaaDoorWay
import Derived.KernelRfl
namespace Go.Proofs.YtpdijogpbnaplaaDoor.con
open Go Go.Proofs.YtpdijogpbnaplaaDoorHz
set_option maxRecDepth 100000
set_option maxHeartbeats 4000000
/-- a memory of the program and the document's -/
structure W1 where
  p : PM
  r : RM
structure W1.Inv (n : Int) (x : W1) : Prop where
  p : x.p.Inv n
  r : x.r.Inv n
  e : ∀ b, 0 ≤ b → x.p.at_ b = x.r.at_ b
def W1.new : W1 := ⟨⟨fun _ => false, fun _ => 0, fun _ => 4096, fun _ => false, fun _ _ => 0⟩, ⟨0, fun _ => 0, fun _ => 0, fun _ => 4096, fun _ => 4096, fun _ => false, fun _ _ => 0⟩⟩
theorem W1.new_inv (n : Int) : W1.new.Inv n :=
  ⟨inv_none n, ⟨fun _ => rfl, fun i h => absurd h (Nat.not_lt_zero _), fun i h => absurd h (Nat.not_lt_zero _), fun i j h => absurd h (Nat.not_lt_zero _), fun i j h => absurd h (Nat.not_lt_zero _), fun b j h => by cases h⟩, fun b _ => (by simp [PM.at_] : PM.at_ ⟨fun _ => false, fun _ => 0, fun _ => 4096, fun _ => false, fun _ _ => 0⟩ b = 0).trans (RM.at_none (fun i h => absurd h (Nat.not_lt_zero _))).symm⟩
theorem W1.Inv.walk {n : Int} {x : W1} (h : x.Inv n) (c : Cx9) (va : Int) : walkS n x.r.at_ c va = walkS n x.p.at_ c va := walkS_same (fun b hb => (h.e b hb).symm) c va
theorem wr_same3 {f g : Int → Int} {n a v b : Int} (he : ∀ b, 0 ≤ b → f b = g b) (hb : 0 ≤ b) : wrA n f a 4 v b = wrA n g a 4 v b := by
  unfold wrA setF
  rw [he b hb]
theorem eq_or9 (N M : Nat) (f g : Nat → Int) : (N = M ∧ ∀ j, j < N → f j = g j) ∨ ¬ (N = M ∧ ∀ j, j < N → f j = g j) := Classical.em _
theorem walk_m (n : Int) (f : Int → Int) (c : Cx9) (va : Int) : (walkS n f c va).m ≤ 2 := by
  unfold walkS
  repeat' split
  all_goals (dsimp only; omega)
theorem all2_cons {α β : Type} {R : α → β → Prop} {c : α} {cs : List α} {ls : List β} (h : All2 R (c :: cs) ls) : ∃ l ls', ls = l :: ls' ∧ R c l ∧ All2 R cs ls' := by
  cases ls with
  | nil => exact h.elim
  | cons l r => exact ⟨l, r, rfl, h.1, h.2⟩
theorem all2_nil {α β : Type} {R : α → β → Prop} {ls : List β} (h : All2 R [] ls) : ls = [] := by
  cases ls with
  | nil => rfl
  | cons l r => exact h.elim
/-- a memory that so many words are written into -/
def foldW (n : Int) (pa pw : Nat → Int) : Nat → Int → Int
  | 0 => fun _ => 0
  | k + 1 => wrA n (foldW n pa pw k) (pa k) 4 (pw k)
def secB (W : Wk) (va : Int) : Bool := decide (W.f.kind = 0) && (decide (W.t.size = 3) && (decide (W.t.va = va - va % 1048576) && (decide (W.t.pa = 0) && (decide (W.t.dom = 0) && (decide (W.t.ap = 3) && (decide (W.t.bits = 0) && (!W.t.ng && !W.t.xn)))))))
def anyB (l : Nat → Int) (a : Int) (x : Nat) : Bool := (List.range x).any fun j => decide (l j = a)
theorem le_put (n : Int) (f : Int → Int) {a w : Int} (he : err n a 4 = 0) (h0 : 0 ≤ w) (h1 : w < 4294967296) : le (wrA n f a 4 w) a 4 = w := by
  have e : ∀ b, a ≤ b → b < a + (4 : Nat) → wrA n f a 4 w b = setF f a 4 w b := fun b _ _ => by unfold wrA; rw [if_pos he]
  rw [le_ext 4 a e]
  have s : ∀ i : Nat, i < 4 → setF f a 4 w (a + i) = w / 256 ^ i % 256 := fun i hi => by
    unfold setF; rw [if_pos (by omega), show (a + (i : Int) - a).toNat = i by omega]
  have s0 := s 0 (by decide)
  have s1 := s 1 (by decide)
  have s2 := s 2 (by decide)
  have s3 := s 3 (by decide)
  simp only [le]
  rw [show a + ((0 : Nat) : Int) = a by simp] at s0
  rw [show a + 1 + 1 = a + ((2 : Nat) : Int) by omega, show a + ((2 : Nat) : Int) + 1 = a + ((3 : Nat) : Int) by omega, show a + 1 = a + ((1 : Nat) : Int) by omega, s0, s1, s2, s3]
  simp only [Int.pow_zero, Int.pow_succ, Int.one_mul, Int.reduceMul, Int.ediv_one]
  omega
theorem le_far (n : Int) (f : Int → Int) {a b w : Int} (he : err n a 4 = 0) (hb : b ≠ a) : le (wrA n f b 4 w) a 4 = le f a 4 := by
  apply le_ext
  intro c h1 h2
  unfold wrA
  by_cases h : err n b 4 = 0
  · rw [if_pos h]
    unfold setF
    have := (err_ok he).1
    have := (err_ok h).1
    rw [if_neg (by omega)]
  · rw [if_neg h]
theorem walk_unread {n : Int} {f : Int → Int} {c : Cx9} {va qa w : Int} (h : ∀ i, i < (walkS n f c va).m → (walkS n f c va).a i ≠ qa) : walkS n (wrA n f qa 4 w) c va = walkS n f c va := by
  by_cases h1 : c.on = false
  · rw [walk_off h1, walk_off h1]
  have h1 : c.on = true := by simpa using h1
  by_cases h2 : firstOk c va = false
  · rw [walk_no h1 h2, walk_no h1 h2]
  have h2 : firstOk c va = true := by simpa using h2
  by_cases h3 : err n (firstA c va) 4 = 0
  case neg => rw [walk_bus h1 h2 h3, walk_bus h1 h2 h3]
  have hfa : qa ≠ firstA c va := by
    intro e
    by_cases h4 : (D1 (le f (firstA c va) 4)).kind = 0
    · rw [walk_f1 h1 h2 h3 h4] at h; exact h 0 (by dsimp only; omega) e.symm
    by_cases h5 : (D1 (le f (firstA c va) 4)).kind = 1
    case neg => rw [walk_b1 h1 h2 h3 h4 h5] at h; exact h 0 (by dsimp only; omega) e.symm
    by_cases h6 : err n (IntKind.u64.wrap ((D1 (le f (firstA c va) 4)).base + va / 4096 % 256 * 4)) 4 = 0
    case neg => rw [walk_bus2 h1 h2 h3 h5 h6] at h; exact h 0 (by dsimp only; omega) e.symm
    by_cases h7 : (D2 (le f (IntKind.u64.wrap ((D1 (le f (firstA c va) 4)).base + va / 4096 % 256 * 4)) 4)).kind = 0
    · rw [walk_f2 h1 h2 h3 h5 h6 h7] at h; exact h 0 (by dsimp only; omega) e.symm
    · rw [walk_b2 h1 h2 h3 h5 h6 h7] at h; exact h 0 (by dsimp only; omega) e.symm
  have e1 : le (wrA n f qa 4 w) (firstA c va) 4 = le f (firstA c va) 4 := le_far n f h3 hfa
  by_cases h5 : (D1 (le f (firstA c va) 4)).kind = 1
  case neg =>
    by_cases h4 : (D1 (le f (firstA c va) 4)).kind = 0
    · rw [walk_f1 h1 h2 h3 h4, walk_f1 h1 h2 h3 (by rw [e1]; exact h4)]
    · rw [walk_b1 h1 h2 h3 h4 h5, walk_b1 h1 h2 h3 (by rw [e1]; exact h4) (by rw [e1]; exact h5), e1]
  by_cases h6 : err n (IntKind.u64.wrap ((D1 (le f (firstA c va) 4)).base + va / 4096 % 256 * 4)) 4 = 0
  case neg => rw [walk_bus2 h1 h2 h3 h5 h6, walk_bus2 h1 h2 h3 (by rw [e1]; exact h5) (by rw [e1]; exact h6), e1]
  have hsa : qa ≠ IntKind.u64.wrap ((D1 (le f (firstA c va) 4)).base + va / 4096 % 256 * 4) := by
    intro e
    by_cases h7 : (D2 (le f (IntKind.u64.wrap ((D1 (le f (firstA c va) 4)).base + va / 4096 % 256 * 4)) 4)).kind = 0
    · rw [walk_f2 h1 h2 h3 h5 h6 h7] at h; exact h 1 (by dsimp only; omega) e.symm
    · rw [walk_b2 h1 h2 h3 h5 h6 h7] at h; exact h 1 (by dsimp only; omega) e.symm
  have e2 : le (wrA n f qa 4 w) (IntKind.u64.wrap ((D1 (le f (firstA c va) 4)).base + va / 4096 % 256 * 4)) 4 = le f (IntKind.u64.wrap ((D1 (le f (firstA c va) 4)).base + va / 4096 % 256 * 4)) 4 := le_far n f h6 hsa
  unfold walkS secA
  rw [e1, e2]
theorem walk_m0 {n : Int} {f : Int → Int} {c : Cx9} {va : Int} : (walkS n f c va).m = 0 ↔ (c.on = false ∨ firstOk c va = false) := by
  by_cases h1 : c.on = false
  · rw [walk_off h1]; simp [h1]
  by_cases h2 : firstOk c va = false
  · rw [walk_no (by simpa using h1) h2]; simp [h2]
  constructor
  · intro h
    unfold walkS at h
    rw [if_neg h1, if_neg h2] at h
    revert h
    repeat' split
    all_goals (dsimp only; omega)
  · rintro (h | h)
    · exact absurd h h1
    · exact absurd h h2
/-- a walk that reads: where, and what stands behind a word that says nothing -/
theorem walk_reads {n : Int} {f : Int → Int} {c : Cx9} {va : Int} (hm : (walkS n f c va).m ≠ 0) : c.on = true ∧ firstOk c va = true ∧ (walkS n f c va).a 0 = firstA c va ∧
    ((walkS n f c va).m = 1 ∨ ((walkS n f c va).m = 2 ∧ err n (firstA c va) 4 = 0 ∧ (D1 (le f (firstA c va) 4)).kind = 1 ∧ (walkS n f c va).a 1 = IntKind.u64.wrap ((D1 (le f (firstA c va) 4)).base + va / 4096 % 256 * 4))) := by
  have h12 : ¬ (c.on = false ∨ firstOk c va = false) := fun h => hm (walk_m0.2 h)
  have h1 : c.on = true := by simpa using fun h => h12 (.inl h)
  have h2 : firstOk c va = true := by simpa using fun h => h12 (.inr h)
  refine ⟨h1, h2, ?_⟩
  by_cases h3 : err n (firstA c va) 4 = 0
  case neg => rw [walk_bus h1 h2 h3]; exact ⟨rfl, .inl rfl⟩
  by_cases h4 : (D1 (le f (firstA c va) 4)).kind = 0
  · rw [walk_f1 h1 h2 h3 h4]; exact ⟨rfl, .inl rfl⟩
  by_cases h5 : (D1 (le f (firstA c va) 4)).kind = 1
  case neg => rw [walk_b1 h1 h2 h3 h4 h5]; exact ⟨rfl, .inl rfl⟩
  by_cases h6 : err n (IntKind.u64.wrap ((D1 (le f (firstA c va) 4)).base + va / 4096 % 256 * 4)) 4 = 0
  case neg => rw [walk_bus2 h1 h2 h3 h5 h6]; exact ⟨rfl, .inr ⟨rfl, h3, h5, rfl⟩⟩
  by_cases h7 : (D2 (le f (IntKind.u64.wrap ((D1 (le f (firstA c va) 4)).base + va / 4096 % 256 * 4)) 4)).kind = 0
  · rw [walk_f2 h1 h2 h3 h5 h6 h7]; exact ⟨rfl, .inr ⟨rfl, h3, h5, rfl⟩⟩
  · rw [walk_b2 h1 h2 h3 h5 h6 h7]; exact ⟨rfl, .inr ⟨rfl, h3, h5, rfl⟩⟩
theorem walk_cut {n : Int} {f : Int → Int} {c : Cx9} {va : Int} (hm : (walkS n f c va).m ≠ 0) (he : err n ((walkS n f c va).a ((walkS n f c va).m - 1)) 4 = 0) :
    (walkS n (wrA n f ((walkS n f c va).a ((walkS n f c va).m - 1)) 4 0) c va).t = Tr.zero ∧
    (walkS n (wrA n f ((walkS n f c va).a ((walkS n f c va).m - 1)) 4 0) c va).f.kind = (if (walkS n f c va).m = 1 ∨ (walkS n f c va).a 0 = (walkS n f c va).a 1 then 3 else 5) ∧ err n ((walkS n f c va).a 0) 4 = 0 := by
  obtain ⟨h1, h2, ha, hc⟩ := walk_reads hm
  have z1 : (D1 0).kind = 0 := by decide
  have z2 : (D2 0).kind = 0 := by decide
  rcases hc with hc | ⟨hc, h3, h5, hb⟩
  · rw [hc, show (1 : Nat) - 1 = 0 from rfl, ha] at he ⊢
    have e := le_put n f he (w := 0) (by decide) (by decide)
    rw [walk_f1 h1 h2 he (by rw [e]; exact z1), if_pos (.inl rfl)]
    exact ⟨rfl, rfl, he⟩
  · rw [hc, show (2 : Nat) - 1 = 1 from rfl] at he ⊢
    by_cases hs : (walkS n f c va).a 1 = firstA c va
    · rw [hs] at he ⊢
      have e := le_put n f he (w := 0) (by decide) (by decide)
      rw [walk_f1 h1 h2 he (by rw [e]; exact z1), if_pos (.inr ha)]
      exact ⟨rfl, rfl, by rw [ha]; exact he⟩
    · have e1 : le (wrA n f ((walkS n f c va).a 1) 4 0) (firstA c va) 4 = le f (firstA c va) 4 := le_far n f h3 hs
      have e2 := le_put n f he (w := 0) (by decide) (by decide)
      have hne : ¬ ((2 : Nat) = 1 ∨ (walkS n f c va).a 0 = (walkS n f c va).a 1) := by
        rw [ha]; exact fun h => h.elim (by decide) (fun h => hs h.symm)
      rw [if_neg hne]
      rw [walk_f2 h1 h2 h3 (by rw [e1]; exact h5) (by rw [e1, ← hb]; exact he) (by rw [e1, ← hb, e2]; exact z2)]
      exact ⟨rfl, rfl, by rw [ha]; exact h3⟩
theorem walk_sec {n : Int} {f : Int → Int} {c : Cx9} {va : Int} (h1 : c.on = true) (h2 : firstOk c va = true) (h3 : err n (firstA c va) 4 = 0) (v0 : 0 ≤ va) (v1 : va < 4294967296) : secB (walkS n (wrA n f (firstA c va) 4 3074) c va) va = true := by
  have e := le_put n f h3 (w := 3074) (by decide) (by decide)
  have k : D1 3074 = ⟨2, 0, 0, false, 3, 0, false, false⟩ := by rfl
  rw [walk_b1 h1 h2 h3 (by rw [e, k]; decide) (by rw [e, k]; decide), e, k]
  have s : says1 ⟨2, 0, 0, false, 3, 0, false, false⟩ = true := by decide +kernel
  unfold secB transS
  simp only [s]
  simp [sizeK, shiftS, Ft.zero]
theorem anyB_succ (l : Nat → Int) (a : Int) (x : Nat) : anyB l a (x + 1) = (anyB l a x || decide (l x = a)) := by
  unfold anyB; rw [List.range_succ, List.any_append]; simp
theorem anyB_false {l : Nat → Int} {a : Int} {x : Nat} (h : anyB l a x = false) : ∀ i, i < x → l i ≠ a := by
  intro i hi e
  have : anyB l a x = true := by unfold anyB; rw [List.any_eq_true]; exact ⟨i, List.mem_range.2 hi, by simp [e]⟩
  rw [h] at this; cases this
theorem walk_a_nn {n : Int} {f : Int → Int} {c : Cx9} {va : Int} (hm : (walkS n f c va).m ≠ 0) {i : Nat} (hi : i < (walkS n f c va).m) : 0 ≤ (walkS n f c va).a i := by
  obtain ⟨_, _, ha, hc⟩ := walk_reads hm
  rcases hc with hc | ⟨hc, _, _, hb⟩
  · have : i = 0 := by omega
    subst this; rw [ha]; exact firstA_nn _ _
  · have : i = 0 ∨ i = 1 := by omega
    rcases this with rfl | rfl
    · rw [ha]; exact firstA_nn _ _
    · rw [hb]; exact u64_nn _
noncomputable def madeC : Con := ⟨19, fun args h => match args, h with
  | [.val (.one (.int .i64 (.tm n))), .val (.one (.vec 2))], [.vec false 50 m [.ints .u64 pa, .ints .u32 pw]] => some [⟨some (n < 1 ∨ 65536 < n), none, .det (.val (.one (.cst (.pointer none)))) ([.vec false 50 m [.ints .u64 pa, .ints .u32 pw]])⟩, ⟨some (¬ (n < 1 ∨ 65536 < n)), some ((m : Int) ≤ 9223372036854775807 ∧ (∀ i, i < m → 0 ≤ pa i ∧ 0 ≤ pw i ∧ pw i ≤ 4294967295)), .rel PM 4 (fun x => some (x.Inv n ∧ ∀ b, 0 ≤ b → x.at_ b = foldW n pa pw m b)) (fun x => .val (.one (.ptr 3 0))) (fun x => [.vec false 50 m [.ints .u64 pa, .ints .u32 pw], .mem true [.cells [.int .i64 (.tm ((n : Int))), .map 4]], .mp true .i64 false x.has [.fptrs 5 x.bb], .fam true 136 .u8 x.ln x.dom x.g])⟩]
  | _, _ => none, true⟩
theorem madeC_p0 (n : Int) (m : Nat) (pa pw : Nat → Int) (hg : n < 1 ∨ 65536 < n) : ∃ anns, fnVC Tryd.prog GTab (callOf Tryd.prog GTab [newC, setWordC]) anns Tryd.f19 ((Tryd.f19.body).getD .skip) [.val (.one (.int .i64 (.tm n))), .val (.one (.vec 2))] [.vec false 50 m [.ints .u64 pa, .ints .u32 pw]] ⟨some (n < 1 ∨ 65536 < n), none, .det (.val (.one (.cst (.pointer none)))) ([.vec false 50 m [.ints .u64 pa, .ints .u32 pw]])⟩ := by
  refine ⟨⟨[], [], [], [], [(10, 0)], [], []⟩, ?_⟩
  rw [show fnVC Tryd.prog GTab (callOf Tryd.prog GTab [newC, setWordC]) ⟨[], [], [], [], [(10, 0)], [], []⟩ Tryd.f19 ((Tryd.f19.body).getD .skip) [.val (.one (.int .i64 (.tm n))), .val (.one (.vec 2))] [.vec false 50 m [.ints .u64 pa, .ints .u32 pw]] ⟨some (n < 1 ∨ 65536 < n), none, .det (.val (.one (.cst (.pointer none)))) ([.vec false 50 m [.ints .u64 pa, .ints .u32 pw]])⟩ = (((n < (1 : Int) ∨ (65536 : Int) < n → False) → False) ∧ (n < (1 : Int) ∨ (65536 : Int) < n → L.cst (Value.pointer none) = L.cst (Value.pointer none) ∧ m = m ∧ (∀ (i : Nat), i < m → pa i = pa i) ∧ ∀ (i : Nat), i < m → pw i = pw i)) from by kernel_rfl]
  exact ⟨fun h => h hg, fun _ => ⟨rfl, ⟨rfl, fun _ _ => rfl, fun _ _ => rfl⟩⟩⟩
theorem madeC_p1 (n : Int) (m : Nat) (pa pw : Nat → Int) (hg : ¬ (n < 1 ∨ 65536 < n)) (hn : (m : Int) ≤ 9223372036854775807 ∧ (∀ i, i < m → 0 ≤ pa i ∧ 0 ≤ pw i ∧ pw i ≤ 4294967295)) : ∃ anns, fnVC Tryd.prog GTab (callOf Tryd.prog GTab [newC, setWordC]) anns Tryd.f19 ((Tryd.f19.body).getD .skip) [.val (.one (.int .i64 (.tm n))), .val (.one (.vec 2))] [.vec false 50 m [.ints .u64 pa, .ints .u32 pw]] ⟨some (¬ (n < 1 ∨ 65536 < n)), some ((m : Int) ≤ 9223372036854775807 ∧ (∀ i, i < m → 0 ≤ pa i ∧ 0 ≤ pw i ∧ pw i ≤ 4294967295)), .rel PM 4 (fun x => some (x.Inv n ∧ ∀ b, 0 ≤ b → x.at_ b = foldW n pa pw m b)) (fun x => .val (.one (.ptr 3 0))) (fun x => [.vec false 50 m [.ints .u64 pa, .ints .u32 pw], .mem true [.cells [.int .i64 (.tm ((n : Int))), .map 4]], .mp true .i64 false x.has [.fptrs 5 x.bb], .fam true 136 .u8 x.ln x.dom x.g])⟩ := by
  refine ⟨⟨[⟨PM × Nat, fun σ x => setM [(3, .mem true [.cells [.int .i64 (.tm ((n : Int))), .map 4]]), (4, .mp true .i64 false x.1.has [.fptrs 5 x.1.bb]), (5, .fam true 136 .u8 x.1.ln x.1.dom x.1.g)] (setT [(7, .val (.one (.int .i64 (.tm ((x.2 : Int))))))] σ), fun _ x => x.1.Inv n ∧ x.2 ≤ m ∧ ∀ b, 0 ≤ b → x.1.at_ b = foldW n pa pw x.2 b, fun x => m - x.2⟩], [], [], [20], [(10, 1)], [], []⟩, ?_⟩
  rw [show fnVC Tryd.prog GTab (callOf Tryd.prog GTab [newC, setWordC]) ⟨[⟨PM × Nat, fun σ x => setM [(3, .mem true [.cells [.int .i64 (.tm ((n : Int))), .map 4]]), (4, .mp true .i64 false x.1.has [.fptrs 5 x.1.bb]), (5, .fam true 136 .u8 x.1.ln x.1.dom x.1.g)] (setT [(7, .val (.one (.int .i64 (.tm ((x.2 : Int))))))] σ), fun _ x => x.1.Inv n ∧ x.2 ≤ m ∧ ∀ b, 0 ≤ b → x.1.at_ b = foldW n pa pw x.2 b, fun x => m - x.2⟩], [], [], [20], [(10, 1)], [], []⟩ Tryd.f19 ((Tryd.f19.body).getD .skip) [.val (.one (.int .i64 (.tm n))), .val (.one (.vec 2))] [.vec false 50 m [.ints .u64 pa, .ints .u32 pw]] ⟨some (¬ (n < 1 ∨ 65536 < n)), some ((m : Int) ≤ 9223372036854775807 ∧ (∀ i, i < m → 0 ≤ pa i ∧ 0 ≤ pw i ∧ pw i ≤ 4294967295)), .rel PM 4 (fun x => some (x.Inv n ∧ ∀ b, 0 ≤ b → x.at_ b = foldW n pa pw m b)) (fun x => .val (.one (.ptr 3 0))) (fun x => [.vec false 50 m [.ints .u64 pa, .ints .u32 pw], .mem true [.cells [.int .i64 (.tm ((n : Int))), .map 4]], .mp true .i64 false x.has [.fptrs 5 x.bb], .fam true 136 .u8 x.ln x.dom x.g])⟩ = ((n < (1 : Int) ∨ (65536 : Int) < n → False) ∧ ((n < (1 : Int) ∨ (65536 : Int) < n → False) → (∃ (x : PM × Nat), (PM.Inv n x.fst ∧ x.snd ≤ m ∧ ∀ (b : Int), (0 : Int) ≤ b → x.fst.at_ b = foldW n pa pw x.snd b) ∧ (n = n ∧ L.cst (Value.pointer none) = L.cst (Value.pointer none) ∧ (0 : Int) = (↑x.snd : Int) ∧ n = n) ∧ (m = m ∧ (∀ (i : Nat), i < m → pa i = pa i) ∧ ∀ (i : Nat), i < m → pw i = pw i) ∧ n = n ∧ ((∀ (i : Int), false = x.fst.has i) ∧ ∀ (i : Int), false = true → (0 : Nat) = x.fst.bb i) ∧ ∀ (b : Nat), x.fst.dom b = true → false = true ∧ x.fst.ln b = (4096 : Nat) ∧ ∀ (j : Nat), j < x.fst.ln b → (0 : Int) = x.fst.g b j) ∧ ∀ (x : PM × Nat), (PM.Inv n x.fst ∧ x.snd ≤ m ∧ ∀ (b : Int), (0 : Int) ≤ b → x.fst.at_ b = foldW n pa pw x.snd b) → (decide ((↑x.snd : Int) < (↑m : Int)) = true → ((0 : Int) ≤ (↑x.snd : Int) ∧ (↑x.snd : Int) < (↑m : Int)) ∧ (↑x.snd : Int).toNat < m ∧ ((0 : Int) ≤ (↑x.snd : Int) ∧ (↑x.snd : Int) < (↑m : Int)) ∧ (↑x.snd : Int).toNat < m ∧ (PM.Inv n x.fst ∧ n ≤ (65536 : Int) ∧ (0 : Int) ≤ n ∧ (0 : Int) ≤ pa (↑x.snd : Int).toNat ∧ (0 : Int) ≤ pw (↑x.snd : Int).toNat ∧ pw (↑x.snd : Int).toNat ≤ (4294967295 : Int)) ∧ ∀ (x_1 : PM), (PM.Inv n x_1 ∧ ∀ (b : Int), (0 : Int) ≤ b → x_1.at_ b = wrA n x.fst.at_ (pa (↑x.snd : Int).toNat) (4 : Int) (pw (↑x.snd : Int).toNat) b) → ∃ (y : PM × Nat), (PM.Inv n y.fst ∧ y.snd ≤ m ∧ ∀ (b : Int), (0 : Int) ≤ b → y.fst.at_ b = foldW n pa pw y.snd b) ∧ m - y.snd < m - x.snd ∧ (n = n ∧ L.cst (Value.pointer none) = L.cst (Value.pointer none) ∧ IntKind.i64.wrap ((↑x.snd : Int) + (1 : Int)) = (↑y.snd : Int) ∧ n = n) ∧ (m = m ∧ (∀ (i : Nat), i < m → pa i = pa i) ∧ ∀ (i : Nat), i < m → pw i = pw i) ∧ n = n ∧ ((∀ (i : Int), x_1.has i = y.fst.has i) ∧ ∀ (i : Int), x_1.has i = true → x_1.bb i = y.fst.bb i) ∧ ∀ (b : Nat), y.fst.dom b = true → x_1.dom b = true ∧ y.fst.ln b = x_1.ln b ∧ ∀ (j : Nat), j < y.fst.ln b → x_1.g b j = y.fst.g b j) ∧ (decide ((↑x.snd : Int) < (↑m : Int)) = false → ∃ (x_1 : PM), (PM.Inv n x_1 ∧ ∀ (b : Int), (0 : Int) ≤ b → x_1.at_ b = foldW n pa pw m b) ∧ (m = m ∧ (∀ (i : Nat), i < m → pa i = pa i) ∧ ∀ (i : Nat), i < m → pw i = pw i) ∧ n = n ∧ ((∀ (i : Int), x.fst.has i = x_1.has i) ∧ ∀ (i : Int), x.fst.has i = true → x.fst.bb i = x_1.bb i) ∧ ∀ (b : Nat), x_1.dom b = true → x.fst.dom b = true ∧ x_1.ln b = x.fst.ln b ∧ ∀ (j : Nat), j < x_1.ln b → x.fst.g b j = x_1.g b j))) from by kernel_rfl]
  obtain ⟨hm, hp⟩ := hn
  have hg1 : 1 ≤ n ∧ n ≤ 65536 := by omega
  refine ⟨hg, fun _ => ⟨⟨(⟨fun _ => false, fun _ => 0, fun _ => 4096, fun _ => false, fun _ _ => 0⟩, 0), ⟨inv_none n, Nat.zero_le _, fun b _ => by simp [PM.at_, foldW]⟩, ⟨rfl, rfl, rfl, rfl⟩, ⟨rfl, fun _ _ => rfl, fun _ _ => rfl⟩, rfl, ⟨fun _ => rfl, fun _ _ => rfl⟩, (fun _ h => ⟨h, rfl, fun _ _ => rfl⟩)⟩, fun x hx => ⟨fun hlt => ?_, fun hge => ⟨x.1, ⟨hx.1, ?_⟩, ⟨rfl, fun _ _ => rfl, fun _ _ => rfl⟩, rfl, ⟨fun _ => rfl, fun _ _ => rfl⟩, (fun _ h => ⟨h, rfl, fun _ _ => rfl⟩)⟩⟩⟩⟩
  · have hlt := of_decide_eq_true hlt
    have e : ((x.2 : Int)).toNat = x.2 := Int.toNat_natCast _
    have hx2 : x.2 < m := by omega
    obtain ⟨p1, p2, p3⟩ := hp x.2 hx2
    rw [e]
    refine ⟨⟨by omega, hlt⟩, hx2, ⟨by omega, hlt⟩, hx2, ⟨hx.1, by omega, by omega, p1, p2, p3⟩, fun p' hp' => ⟨(p', x.2 + 1), ⟨hp'.1, hx2, fun b hb => ?_⟩, by show m - (x.2 + 1) < m - x.2; omega, ⟨rfl, rfl, ?_, rfl⟩, ⟨rfl, fun _ _ => rfl, fun _ _ => rfl⟩, rfl, ⟨fun _ => rfl, fun _ _ => rfl⟩, (fun _ h => ⟨h, rfl, fun _ _ => rfl⟩)⟩⟩
    · show p'.at_ b = wrA n (foldW n pa pw x.2) (pa x.2) 4 (pw x.2) b
      rw [hp'.2 b hb]
      exact wr_same3 hx.2.2 hb
    · rw [wrap_i64 (by omega) (by omega)]; rfl
  · have hge := of_decide_eq_false hge
    have : x.2 = m := by have := hx.2.1; omega
    rw [← this]; exact hx.2.2
theorem madeC_ch (n : Int) (m : Nat) (pa pw : Nat → Int) : ∃ r ∈ ([⟨some (n < 1 ∨ 65536 < n), none, .det (.val (.one (.cst (.pointer none)))) ([.vec false 50 m [.ints .u64 pa, .ints .u32 pw]])⟩, ⟨some (¬ (n < 1 ∨ 65536 < n)), some ((m : Int) ≤ 9223372036854775807 ∧ (∀ i, i < m → 0 ≤ pa i ∧ 0 ≤ pw i ∧ pw i ≤ 4294967295)), .rel PM 4 (fun x => some (x.Inv n ∧ ∀ b, 0 ≤ b → x.at_ b = foldW n pa pw m b)) (fun x => .val (.one (.ptr 3 0))) (fun x => [.vec false 50 m [.ints .u64 pa, .ints .u32 pw], .mem true [.cells [.int .i64 (.tm ((n : Int))), .map 4]], .mp true .i64 false x.has [.fptrs 5 x.bb], .fam true 136 .u8 x.ln x.dom x.g])⟩] : List Res), holdsP r.g ∧ (holdsP r.need → r.r.shaped [.vec false 50 m [.ints .u64 pa, .ints .u32 pw]] ∧ ∃ anns, fnVC Tryd.prog GTab (callOf Tryd.prog GTab [newC, setWordC]) anns Tryd.f19 ((Tryd.f19.body).getD .skip) [.val (.one (.int .i64 (.tm n))), .val (.one (.vec 2))] [.vec false 50 m [.ints .u64 pa, .ints .u32 pw]] r) := by
  have hx : (n < 1 ∨ 65536 < n) ∨ (¬ (n < 1 ∨ 65536 < n)) := by
    by_cases h : n < 1 ∨ 65536 < n
    · exact .inl h
    · exact .inr h
  rcases hx with h | h
  · exact ⟨_, List.mem_cons_self, h, fun _ => ⟨trivial, madeC_p0 n m pa pw h⟩⟩
  · exact ⟨_, (List.mem_cons_of_mem _ List.mem_cons_self), h, fun hn => ⟨fun x _ => rfl, madeC_p1 n m pa pw h hn⟩⟩
theorem madeC_ok : madeC.ok Tryd.prog GTab := by
  refine con_ok (cs := [newC, setWordC]) (body := (Tryd.f19.body).getD .skip) ?_ Tryd.func19 rfl ?_
  · intro c h
    simp only [List.mem_cons, List.not_mem_nil, or_false] at h
    rcases h with rfl | rfl
    · exact newC_ok
    · exact setWordC_ok
  · intro args h l hl
    unfold madeC at hl
    dsimp only at hl
    split at hl
    · cases hl
      exact madeC_ch _ _ _ _
    · cases hl
noncomputable def aliveC : Con := ⟨18, fun args h => match args, h with
  | [], [] => some [⟨none, none, .det (.val (.one (.bool (.lit true)))) ([])⟩]
  | _, _ => none, true⟩
theorem aliveC_p0  : ∃ anns, fnVC Tryd.prog GTab (callOf Tryd.prog GTab [madeC, walkC]) anns Tryd.f18 ((Tryd.f18.body).getD .skip) [] [] ⟨none, none, .det (.val (.one (.bool (.lit true)))) ([])⟩ := by
  refine ⟨⟨[], [], [], [], [(13, 1)], [], []⟩, ?_⟩
  rw [show fnVC Tryd.prog GTab (callOf Tryd.prog GTab [madeC, walkC]) ⟨[], [], [], [], [(13, 1)], [], []⟩ Tryd.f18 ((Tryd.f18.body).getD .skip) [] [] ⟨none, none, .det (.val (.one (.bool (.lit true)))) ([])⟩ = (((16 : Int) < (1 : Int) ∨ (65536 : Int) < (16 : Int) → False) ∧ (((16 : Int) < (1 : Int) ∨ (65536 : Int) < (16 : Int) → False) → ((↑(3 : Nat) : Int) ≤ (9223372036854775807 : Int) ∧ ∀ (i : Nat), i < (3 : Nat) → (0 : Int) ≤ nthI [(16384 : Int), (16388 : Int), (20484 : Int)] i ∧ (0 : Int) ≤ nthI [(20513 : Int), (1051662 : Int), (30782 : Int)] i ∧ nthI [(20513 : Int), (1051662 : Int), (30782 : Int)] i ≤ (4294967295 : Int)) ∧ ∀ (x : PM), (PM.Inv (16 : Int) x ∧ ∀ (b : Int), (0 : Int) ≤ b → x.at_ b = foldW (16 : Int) (nthI [(16384 : Int), (16388 : Int), (20484 : Int)]) (nthI [(20513 : Int), (1051662 : Int), (30782 : Int)]) (3 : Nat) b) → (PM.Inv (16 : Int) x ∧ (16 : Int) ≤ (65536 : Int) ∧ (0 : Int) ≤ (16 : Int) ∧ (0 : Int) ≤ (16384 : Int) ∧ (16384 : Int) < (18446744073709551616 : Int) ∧ (0 : Int) ≤ (131072 : Int) ∧ (131072 : Int) < (18446744073709551616 : Int) ∧ (0 : Int) ≤ (4660 : Int) ∧ (4660 : Int) < (4294967296 : Int)) ∧ (PM.Inv (16 : Int) x ∧ (16 : Int) ≤ (65536 : Int) ∧ (0 : Int) ≤ (16 : Int) ∧ (0 : Int) ≤ (16384 : Int) ∧ (16384 : Int) < (18446744073709551616 : Int) ∧ (0 : Int) ≤ (131072 : Int) ∧ (131072 : Int) < (18446744073709551616 : Int) ∧ (0 : Int) ≤ (1048576 : Int) ∧ (1048576 : Int) < (4294967296 : Int)) ∧ (PM.Inv (16 : Int) x ∧ (16 : Int) ≤ (65536 : Int) ∧ (0 : Int) ≤ (16 : Int) ∧ (0 : Int) ≤ (16384 : Int) ∧ (16384 : Int) < (18446744073709551616 : Int) ∧ (0 : Int) ≤ (131072 : Int) ∧ (131072 : Int) < (18446744073709551616 : Int) ∧ (0 : Int) ≤ (8192 : Int) ∧ (8192 : Int) < (4294967296 : Int)) ∧ (decide ((walkS (16 : Int) x.at_ (Cx9.mk true (2 : Int) false false (16384 : Int) (131072 : Int)) (4660 : Int)).t.size = (1 : Int)) = true → decide ((walkS (16 : Int) x.at_ (Cx9.mk true (2 : Int) false false (16384 : Int) (131072 : Int)) (4660 : Int)).t.size = (1 : Int)) = true) ∧ (decide ((walkS (16 : Int) x.at_ (Cx9.mk true (2 : Int) false false (16384 : Int) (131072 : Int)) (4660 : Int)).t.size = (1 : Int)) = true → decide ((walkS (16 : Int) x.at_ (Cx9.mk true (2 : Int) false false (16384 : Int) (131072 : Int)) (4660 : Int)).t.size = (1 : Int)) = true) ∧ (decide ((walkS (16 : Int) x.at_ (Cx9.mk true (2 : Int) false false (16384 : Int) (131072 : Int)) (4660 : Int)).t.size = (1 : Int)) = true → decide ((walkS (16 : Int) x.at_ (Cx9.mk true (2 : Int) false false (16384 : Int) (131072 : Int)) (4660 : Int)).t.size = (1 : Int)) = true) ∧ ((bif decide ((walkS (16 : Int) x.at_ (Cx9.mk true (2 : Int) false false (16384 : Int) (131072 : Int)) (4660 : Int)).t.size = (1 : Int)) then decide ((walkS (16 : Int) x.at_ (Cx9.mk true (2 : Int) false false (16384 : Int) (131072 : Int)) (4660 : Int)).t.pa = (28672 : Int)) else false) = true → (bif decide ((walkS (16 : Int) x.at_ (Cx9.mk true (2 : Int) false false (16384 : Int) (131072 : Int)) (4660 : Int)).t.size = (1 : Int)) then decide ((walkS (16 : Int) x.at_ (Cx9.mk true (2 : Int) false false (16384 : Int) (131072 : Int)) (4660 : Int)).t.pa = (28672 : Int)) else false) = true) ∧ ((bif decide ((walkS (16 : Int) x.at_ (Cx9.mk true (2 : Int) false false (16384 : Int) (131072 : Int)) (4660 : Int)).t.size = (1 : Int)) then decide ((walkS (16 : Int) x.at_ (Cx9.mk true (2 : Int) false false (16384 : Int) (131072 : Int)) (4660 : Int)).t.pa = (28672 : Int)) else false) = true → (bif decide ((walkS (16 : Int) x.at_ (Cx9.mk true (2 : Int) false false (16384 : Int) (131072 : Int)) (4660 : Int)).t.size = (1 : Int)) then decide ((walkS (16 : Int) x.at_ (Cx9.mk true (2 : Int) false false (16384 : Int) (131072 : Int)) (4660 : Int)).t.pa = (28672 : Int)) else false) = true) ∧ ((bif decide ((walkS (16 : Int) x.at_ (Cx9.mk true (2 : Int) false false (16384 : Int) (131072 : Int)) (4660 : Int)).t.size = (1 : Int)) then decide ((walkS (16 : Int) x.at_ (Cx9.mk true (2 : Int) false false (16384 : Int) (131072 : Int)) (4660 : Int)).t.pa = (28672 : Int)) else false) = true → (bif decide ((walkS (16 : Int) x.at_ (Cx9.mk true (2 : Int) false false (16384 : Int) (131072 : Int)) (4660 : Int)).t.size = (1 : Int)) then decide ((walkS (16 : Int) x.at_ (Cx9.mk true (2 : Int) false false (16384 : Int) (131072 : Int)) (4660 : Int)).t.pa = (28672 : Int)) else false) = true) ∧ ((bif bif decide ((walkS (16 : Int) x.at_ (Cx9.mk true (2 : Int) false false (16384 : Int) (131072 : Int)) (4660 : Int)).t.size = (1 : Int)) then decide ((walkS (16 : Int) x.at_ (Cx9.mk true (2 : Int) false false (16384 : Int) (131072 : Int)) (4660 : Int)).t.pa = (28672 : Int)) else false then decide ((walkS (16 : Int) x.at_ (Cx9.mk true (2 : Int) false false (16384 : Int) (131072 : Int)) (4660 : Int)).f.kind = (0 : Int)) else false) = true → (bif bif decide ((walkS (16 : Int) x.at_ (Cx9.mk true (2 : Int) false false (16384 : Int) (131072 : Int)) (4660 : Int)).t.size = (1 : Int)) then decide ((walkS (16 : Int) x.at_ (Cx9.mk true (2 : Int) false false (16384 : Int) (131072 : Int)) (4660 : Int)).t.pa = (28672 : Int)) else false then decide ((walkS (16 : Int) x.at_ (Cx9.mk true (2 : Int) false false (16384 : Int) (131072 : Int)) (4660 : Int)).f.kind = (0 : Int)) else false) = true) ∧ ((bif bif decide ((walkS (16 : Int) x.at_ (Cx9.mk true (2 : Int) false false (16384 : Int) (131072 : Int)) (4660 : Int)).t.size = (1 : Int)) then decide ((walkS (16 : Int) x.at_ (Cx9.mk true (2 : Int) false false (16384 : Int) (131072 : Int)) (4660 : Int)).t.pa = (28672 : Int)) else false then decide ((walkS (16 : Int) x.at_ (Cx9.mk true (2 : Int) false false (16384 : Int) (131072 : Int)) (4660 : Int)).f.kind = (0 : Int)) else false) = true → (bif bif decide ((walkS (16 : Int) x.at_ (Cx9.mk true (2 : Int) false false (16384 : Int) (131072 : Int)) (4660 : Int)).t.size = (1 : Int)) then decide ((walkS (16 : Int) x.at_ (Cx9.mk true (2 : Int) false false (16384 : Int) (131072 : Int)) (4660 : Int)).t.pa = (28672 : Int)) else false then decide ((walkS (16 : Int) x.at_ (Cx9.mk true (2 : Int) false false (16384 : Int) (131072 : Int)) (4660 : Int)).f.kind = (0 : Int)) else false) = true) ∧ ((bif bif decide ((walkS (16 : Int) x.at_ (Cx9.mk true (2 : Int) false false (16384 : Int) (131072 : Int)) (4660 : Int)).t.size = (1 : Int)) then decide ((walkS (16 : Int) x.at_ (Cx9.mk true (2 : Int) false false (16384 : Int) (131072 : Int)) (4660 : Int)).t.pa = (28672 : Int)) else false then decide ((walkS (16 : Int) x.at_ (Cx9.mk true (2 : Int) false false (16384 : Int) (131072 : Int)) (4660 : Int)).f.kind = (0 : Int)) else false) = true → (bif bif decide ((walkS (16 : Int) x.at_ (Cx9.mk true (2 : Int) false false (16384 : Int) (131072 : Int)) (4660 : Int)).t.size = (1 : Int)) then decide ((walkS (16 : Int) x.at_ (Cx9.mk true (2 : Int) false false (16384 : Int) (131072 : Int)) (4660 : Int)).t.pa = (28672 : Int)) else false then decide ((walkS (16 : Int) x.at_ (Cx9.mk true (2 : Int) false false (16384 : Int) (131072 : Int)) (4660 : Int)).f.kind = (0 : Int)) else false) = true) ∧ ((bif bif bif decide ((walkS (16 : Int) x.at_ (Cx9.mk true (2 : Int) false false (16384 : Int) (131072 : Int)) (4660 : Int)).t.size = (1 : Int)) then decide ((walkS (16 : Int) x.at_ (Cx9.mk true (2 : Int) false false (16384 : Int) (131072 : Int)) (4660 : Int)).t.pa = (28672 : Int)) else false then decide ((walkS (16 : Int) x.at_ (Cx9.mk true (2 : Int) false false (16384 : Int) (131072 : Int)) (4660 : Int)).f.kind = (0 : Int)) else false then decide ((walkS (16 : Int) x.at_ (Cx9.mk true (2 : Int) false false (16384 : Int) (131072 : Int)) (1048576 : Int)).t.size = (3 : Int)) else false) = true → (bif bif bif decide ((walkS (16 : Int) x.at_ (Cx9.mk true (2 : Int) false false (16384 : Int) (131072 : Int)) (4660 : Int)).t.size = (1 : Int)) then decide ((walkS (16 : Int) x.at_ (Cx9.mk true (2 : Int) false false (16384 : Int) (131072 : Int)) (4660 : Int)).t.pa = (28672 : Int)) else false then decide ((walkS (16 : Int) x.at_ (Cx9.mk true (2 : Int) false false (16384 : Int) (131072 : Int)) (4660 : Int)).f.kind = (0 : Int)) else false then decide ((walkS (16 : Int) x.at_ (Cx9.mk true (2 : Int) false false (16384 : Int) (131072 : Int)) (1048576 : Int)).t.size = (3 : Int)) else false) = true) ∧ ((bif bif bif decide ((walkS (16 : Int) x.at_ (Cx9.mk true (2 : Int) false false (16384 : Int) (131072 : Int)) (4660 : Int)).t.size = (1 : Int)) then decide ((walkS (16 : Int) x.at_ (Cx9.mk true (2 : Int) false false (16384 : Int) (131072 : Int)) (4660 : Int)).t.pa = (28672 : Int)) else false then decide ((walkS (16 : Int) x.at_ (Cx9.mk true (2 : Int) false false (16384 : Int) (131072 : Int)) (4660 : Int)).f.kind = (0 : Int)) else false then decide ((walkS (16 : Int) x.at_ (Cx9.mk true (2 : Int) false false (16384 : Int) (131072 : Int)) (1048576 : Int)).t.size = (3 : Int)) else false) = true → (bif bif bif decide ((walkS (16 : Int) x.at_ (Cx9.mk true (2 : Int) false false (16384 : Int) (131072 : Int)) (4660 : Int)).t.size = (1 : Int)) then decide ((walkS (16 : Int) x.at_ (Cx9.mk true (2 : Int) false false (16384 : Int) (131072 : Int)) (4660 : Int)).t.pa = (28672 : Int)) else false then decide ((walkS (16 : Int) x.at_ (Cx9.mk true (2 : Int) false false (16384 : Int) (131072 : Int)) (4660 : Int)).f.kind = (0 : Int)) else false then decide ((walkS (16 : Int) x.at_ (Cx9.mk true (2 : Int) false false (16384 : Int) (131072 : Int)) (1048576 : Int)).t.size = (3 : Int)) else false) = true) ∧ ((bif bif bif decide ((walkS (16 : Int) x.at_ (Cx9.mk true (2 : Int) false false (16384 : Int) (131072 : Int)) (4660 : Int)).t.size = (1 : Int)) then decide ((walkS (16 : Int) x.at_ (Cx9.mk true (2 : Int) false false (16384 : Int) (131072 : Int)) (4660 : Int)).t.pa = (28672 : Int)) else false then decide ((walkS (16 : Int) x.at_ (Cx9.mk true (2 : Int) false false (16384 : Int) (131072 : Int)) (4660 : Int)).f.kind = (0 : Int)) else false then decide ((walkS (16 : Int) x.at_ (Cx9.mk true (2 : Int) false false (16384 : Int) (131072 : Int)) (1048576 : Int)).t.size = (3 : Int)) else false) = true → (bif bif bif decide ((walkS (16 : Int) x.at_ (Cx9.mk true (2 : Int) false false (16384 : Int) (131072 : Int)) (4660 : Int)).t.size = (1 : Int)) then decide ((walkS (16 : Int) x.at_ (Cx9.mk true (2 : Int) false false (16384 : Int) (131072 : Int)) (4660 : Int)).t.pa = (28672 : Int)) else false then decide ((walkS (16 : Int) x.at_ (Cx9.mk true (2 : Int) false false (16384 : Int) (131072 : Int)) (4660 : Int)).f.kind = (0 : Int)) else false then decide ((walkS (16 : Int) x.at_ (Cx9.mk true (2 : Int) false false (16384 : Int) (131072 : Int)) (1048576 : Int)).t.size = (3 : Int)) else false) = true) ∧ (((bif bif bif bif decide ((walkS (16 : Int) x.at_ (Cx9.mk true (2 : Int) false false (16384 : Int) (131072 : Int)) (4660 : Int)).t.size = (1 : Int)) then decide ((walkS (16 : Int) x.at_ (Cx9.mk true (2 : Int) false false (16384 : Int) (131072 : Int)) (4660 : Int)).t.pa = (28672 : Int)) else false then decide ((walkS (16 : Int) x.at_ (Cx9.mk true (2 : Int) false false (16384 : Int) (131072 : Int)) (4660 : Int)).f.kind = (0 : Int)) else false then decide ((walkS (16 : Int) x.at_ (Cx9.mk true (2 : Int) false false (16384 : Int) (131072 : Int)) (1048576 : Int)).t.size = (3 : Int)) else false then decide ((walkS (16 : Int) x.at_ (Cx9.mk true (2 : Int) false false (16384 : Int) (131072 : Int)) (1048576 : Int)).f.kind = (0 : Int)) else false) = true → (bif bif bif bif decide ((walkS (16 : Int) x.at_ (Cx9.mk true (2 : Int) false false (16384 : Int) (131072 : Int)) (4660 : Int)).t.size = (1 : Int)) then decide ((walkS (16 : Int) x.at_ (Cx9.mk true (2 : Int) false false (16384 : Int) (131072 : Int)) (4660 : Int)).t.pa = (28672 : Int)) else false then decide ((walkS (16 : Int) x.at_ (Cx9.mk true (2 : Int) false false (16384 : Int) (131072 : Int)) (4660 : Int)).f.kind = (0 : Int)) else false then decide ((walkS (16 : Int) x.at_ (Cx9.mk true (2 : Int) false false (16384 : Int) (131072 : Int)) (1048576 : Int)).t.size = (3 : Int)) else false then decide ((walkS (16 : Int) x.at_ (Cx9.mk true (2 : Int) false false (16384 : Int) (131072 : Int)) (1048576 : Int)).f.kind = (0 : Int)) else false) = true) ∧ ((bif bif bif bif decide ((walkS (16 : Int) x.at_ (Cx9.mk true (2 : Int) false false (16384 : Int) (131072 : Int)) (4660 : Int)).t.size = (1 : Int)) then decide ((walkS (16 : Int) x.at_ (Cx9.mk true (2 : Int) false false (16384 : Int) (131072 : Int)) (4660 : Int)).t.pa = (28672 : Int)) else false then decide ((walkS (16 : Int) x.at_ (Cx9.mk true (2 : Int) false false (16384 : Int) (131072 : Int)) (4660 : Int)).f.kind = (0 : Int)) else false then decide ((walkS (16 : Int) x.at_ (Cx9.mk true (2 : Int) false false (16384 : Int) (131072 : Int)) (1048576 : Int)).t.size = (3 : Int)) else false then decide ((walkS (16 : Int) x.at_ (Cx9.mk true (2 : Int) false false (16384 : Int) (131072 : Int)) (1048576 : Int)).f.kind = (0 : Int)) else false) = true → (bif bif bif bif decide ((walkS (16 : Int) x.at_ (Cx9.mk true (2 : Int) false false (16384 : Int) (131072 : Int)) (4660 : Int)).t.size = (1 : Int)) then decide ((walkS (16 : Int) x.at_ (Cx9.mk true (2 : Int) false false (16384 : Int) (131072 : Int)) (4660 : Int)).t.pa = (28672 : Int)) else false then decide ((walkS (16 : Int) x.at_ (Cx9.mk true (2 : Int) false false (16384 : Int) (131072 : Int)) (4660 : Int)).f.kind = (0 : Int)) else false then decide ((walkS (16 : Int) x.at_ (Cx9.mk true (2 : Int) false false (16384 : Int) (131072 : Int)) (1048576 : Int)).t.size = (3 : Int)) else false then decide ((walkS (16 : Int) x.at_ (Cx9.mk true (2 : Int) false false (16384 : Int) (131072 : Int)) (1048576 : Int)).f.kind = (0 : Int)) else false) = true)) ∧ ((bif bif bif bif decide ((walkS (16 : Int) x.at_ (Cx9.mk true (2 : Int) false false (16384 : Int) (131072 : Int)) (4660 : Int)).t.size = (1 : Int)) then decide ((walkS (16 : Int) x.at_ (Cx9.mk true (2 : Int) false false (16384 : Int) (131072 : Int)) (4660 : Int)).t.pa = (28672 : Int)) else false then decide ((walkS (16 : Int) x.at_ (Cx9.mk true (2 : Int) false false (16384 : Int) (131072 : Int)) (4660 : Int)).f.kind = (0 : Int)) else false then decide ((walkS (16 : Int) x.at_ (Cx9.mk true (2 : Int) false false (16384 : Int) (131072 : Int)) (1048576 : Int)).t.size = (3 : Int)) else false then decide ((walkS (16 : Int) x.at_ (Cx9.mk true (2 : Int) false false (16384 : Int) (131072 : Int)) (1048576 : Int)).f.kind = (0 : Int)) else false) = true → (bif bif bif bif decide ((walkS (16 : Int) x.at_ (Cx9.mk true (2 : Int) false false (16384 : Int) (131072 : Int)) (4660 : Int)).t.size = (1 : Int)) then decide ((walkS (16 : Int) x.at_ (Cx9.mk true (2 : Int) false false (16384 : Int) (131072 : Int)) (4660 : Int)).t.pa = (28672 : Int)) else false then decide ((walkS (16 : Int) x.at_ (Cx9.mk true (2 : Int) false false (16384 : Int) (131072 : Int)) (4660 : Int)).f.kind = (0 : Int)) else false then decide ((walkS (16 : Int) x.at_ (Cx9.mk true (2 : Int) false false (16384 : Int) (131072 : Int)) (1048576 : Int)).t.size = (3 : Int)) else false then decide ((walkS (16 : Int) x.at_ (Cx9.mk true (2 : Int) false false (16384 : Int) (131072 : Int)) (1048576 : Int)).f.kind = (0 : Int)) else false) = true) ∧ (bif bif bif bif bif decide ((walkS (16 : Int) x.at_ (Cx9.mk true (2 : Int) false false (16384 : Int) (131072 : Int)) (4660 : Int)).t.size = (1 : Int)) then decide ((walkS (16 : Int) x.at_ (Cx9.mk true (2 : Int) false false (16384 : Int) (131072 : Int)) (4660 : Int)).t.pa = (28672 : Int)) else false then decide ((walkS (16 : Int) x.at_ (Cx9.mk true (2 : Int) false false (16384 : Int) (131072 : Int)) (4660 : Int)).f.kind = (0 : Int)) else false then decide ((walkS (16 : Int) x.at_ (Cx9.mk true (2 : Int) false false (16384 : Int) (131072 : Int)) (1048576 : Int)).t.size = (3 : Int)) else false then decide ((walkS (16 : Int) x.at_ (Cx9.mk true (2 : Int) false false (16384 : Int) (131072 : Int)) (1048576 : Int)).f.kind = (0 : Int)) else false then decide ((walkS (16 : Int) x.at_ (Cx9.mk true (2 : Int) false false (16384 : Int) (131072 : Int)) (8192 : Int)).f.kind = (5 : Int)) && (decide ((walkS (16 : Int) x.at_ (Cx9.mk true (2 : Int) false false (16384 : Int) (131072 : Int)) (8192 : Int)).f.level = (0 : Int)) && decide ((walkS (16 : Int) x.at_ (Cx9.mk true (2 : Int) false false (16384 : Int) (131072 : Int)) (8192 : Int)).f.dom = (1 : Int))) else false) = true)) from by kernel_rfl]
  refine ⟨by decide, fun _ => ⟨⟨by decide, fun i hi => ?_⟩, fun x hx => ?_⟩⟩
  · match i, hi with
    | 0, _ => exact (by decide)
    | 1, _ => exact (by decide)
    | 2, _ => exact (by decide)
  · have hw : ∀ va, walkS 16 x.at_ (Cx9.mk true 2 false false 16384 131072) va = walkS 16 (foldW 16 (nthI [16384, 16388, 20484]) (nthI [20513, 1051662, 30782]) 3) (Cx9.mk true 2 false false 16384 131072) va := fun va => walkS_same hx.2 _ va
    rw [hw 4660, hw 1048576, hw 8192]
    have e1 : (walkS 16 (foldW 16 (nthI [16384, 16388, 20484]) (nthI [20513, 1051662, 30782]) 3) (Cx9.mk true 2 false false 16384 131072) 4660).t.size = 1 := by decide +kernel
    have e2 : (walkS 16 (foldW 16 (nthI [16384, 16388, 20484]) (nthI [20513, 1051662, 30782]) 3) (Cx9.mk true 2 false false 16384 131072) 4660).t.pa = 28672 := by decide +kernel
    have e3 : (walkS 16 (foldW 16 (nthI [16384, 16388, 20484]) (nthI [20513, 1051662, 30782]) 3) (Cx9.mk true 2 false false 16384 131072) 4660).f.kind = 0 := by decide +kernel
    have e4 : (walkS 16 (foldW 16 (nthI [16384, 16388, 20484]) (nthI [20513, 1051662, 30782]) 3) (Cx9.mk true 2 false false 16384 131072) 1048576).t.size = 3 := by decide +kernel
    have e5 : (walkS 16 (foldW 16 (nthI [16384, 16388, 20484]) (nthI [20513, 1051662, 30782]) 3) (Cx9.mk true 2 false false 16384 131072) 1048576).f.kind = 0 := by decide +kernel
    have e6 : (walkS 16 (foldW 16 (nthI [16384, 16388, 20484]) (nthI [20513, 1051662, 30782]) 3) (Cx9.mk true 2 false false 16384 131072) 8192).f.kind = 5 := by decide +kernel
    have e7 : (walkS 16 (foldW 16 (nthI [16384, 16388, 20484]) (nthI [20513, 1051662, 30782]) 3) (Cx9.mk true 2 false false 16384 131072) 8192).f.level = 0 := by decide +kernel
    have e8 : (walkS 16 (foldW 16 (nthI [16384, 16388, 20484]) (nthI [20513, 1051662, 30782]) 3) (Cx9.mk true 2 false false 16384 131072) 8192).f.dom = 1 := by decide +kernel
    simp [e1, e2, e3, e4, e5, e6, e7, e8, hx.1]
theorem aliveC_ch  : ∃ r ∈ ([⟨none, none, .det (.val (.one (.bool (.lit true)))) ([])⟩] : List Res), holdsP r.g ∧ (holdsP r.need → r.r.shaped [] ∧ ∃ anns, fnVC Tryd.prog GTab (callOf Tryd.prog GTab [madeC, walkC]) anns Tryd.f18 ((Tryd.f18.body).getD .skip) [] [] r) := by
  exact ⟨_, List.mem_cons_self, trivial, fun _ => ⟨trivial, aliveC_p0 ⟩⟩
theorem aliveC_ok : aliveC.ok Tryd.prog GTab := by
  refine con_ok (cs := [madeC, walkC]) (body := (Tryd.f18.body).getD .skip) ?_ Tryd.func18 rfl ?_
  · intro c h
    simp only [List.mem_cons, List.not_mem_nil, or_false] at h
    rcases h with rfl | rfl
    · exact madeC_ok
    · exact walkC_ok
  · intro args h l hl
    unfold aliveC at hl
    dsimp only at hl
    split at hl
    · cases hl
      exact aliveC_ch 
    · cases hl
noncomputable def sectC : Con := ⟨21, fun args h => match args, h with
  | [.val (.one (.ptr 2 0)), .val (.agg [.bool (.tm on), .bool (.tm tre), .bool (.tm afe), .int .i64 (.tm cn), .bool (.tm pd0), .bool (.tm pd1), .int .u64 (.tm b0), .int .u64 (.tm b1), .int .u32 (.tm da), .int .u32 (.tm pr), .int .u32 (.tm nm), .int .i64 (.tm asd)]), .val (.one (.int .u32 (.tm va)))], [.mem false [.cells [.int .i64 (.tm n), .map 3]], .mp false .i64 false has [.fptrs 4 bb], .fam false 136 .u8 ln dom g] => some [⟨none, some ((PM.mk has bb ln dom g).Inv n ∧ n ≤ 65536 ∧ 0 ≤ n ∧ 0 ≤ b0 ∧ b0 < 18446744073709551616 ∧ 0 ≤ b1 ∧ b1 < 18446744073709551616 ∧ 0 ≤ va ∧ va < 4294967296), .det (.val (.one (.bool (.tm (secB (walkS n (PM.mk has bb ln dom g).at_ (Cx9.mk on cn pd0 pd1 b0 b1) va) va))))) ([.mem false [.cells [.int .i64 (.tm n), .map 3]], .mp false .i64 false has [.fptrs 4 bb], .fam false 136 .u8 ln dom g])⟩]
  | _, _ => none, true⟩
theorem sectC_p0 (n : Int) (has : Int → Bool) (bb : Int → Nat) (ln : Nat → Nat) (dom : Nat → Bool) (g : Nat → Nat → Int) (on tre afe pd0 pd1 : Bool) (cn b0 b1 da pr nm asd : Int) (va : Int) (hn : (PM.mk has bb ln dom g).Inv n ∧ n ≤ 65536 ∧ 0 ≤ n ∧ 0 ≤ b0 ∧ b0 < 18446744073709551616 ∧ 0 ≤ b1 ∧ b1 < 18446744073709551616 ∧ 0 ≤ va ∧ va < 4294967296) : ∃ anns, fnVC Tryd.prog GTab (callOf Tryd.prog GTab [walkC]) anns Tryd.f21 ((Tryd.f21.body).getD .skip) [.val (.one (.ptr 2 0)), .val (.agg [.bool (.tm on), .bool (.tm tre), .bool (.tm afe), .int .i64 (.tm cn), .bool (.tm pd0), .bool (.tm pd1), .int .u64 (.tm b0), .int .u64 (.tm b1), .int .u32 (.tm da), .int .u32 (.tm pr), .int .u32 (.tm nm), .int .i64 (.tm asd)]), .val (.one (.int .u32 (.tm va)))] [.mem false [.cells [.int .i64 (.tm n), .map 3]], .mp false .i64 false has [.fptrs 4 bb], .fam false 136 .u8 ln dom g] ⟨none, some ((PM.mk has bb ln dom g).Inv n ∧ n ≤ 65536 ∧ 0 ≤ n ∧ 0 ≤ b0 ∧ b0 < 18446744073709551616 ∧ 0 ≤ b1 ∧ b1 < 18446744073709551616 ∧ 0 ≤ va ∧ va < 4294967296), .det (.val (.one (.bool (.tm (secB (walkS n (PM.mk has bb ln dom g).at_ (Cx9.mk on cn pd0 pd1 b0 b1) va) va))))) ([.mem false [.cells [.int .i64 (.tm n), .map 3]], .mp false .i64 false has [.fptrs 4 bb], .fam false 136 .u8 ln dom g])⟩ := by
  refine ⟨⟨[], [], [], [], [], [], []⟩, ?_⟩
  rw [show fnVC Tryd.prog GTab (callOf Tryd.prog GTab [walkC]) ⟨[], [], [], [], [], [], []⟩ Tryd.f21 ((Tryd.f21.body).getD .skip) [.val (.one (.ptr 2 0)), .val (.agg [.bool (.tm on), .bool (.tm tre), .bool (.tm afe), .int .i64 (.tm cn), .bool (.tm pd0), .bool (.tm pd1), .int .u64 (.tm b0), .int .u64 (.tm b1), .int .u32 (.tm da), .int .u32 (.tm pr), .int .u32 (.tm nm), .int .i64 (.tm asd)]), .val (.one (.int .u32 (.tm va)))] [.mem false [.cells [.int .i64 (.tm n), .map 3]], .mp false .i64 false has [.fptrs 4 bb], .fam false 136 .u8 ln dom g] ⟨none, some ((PM.mk has bb ln dom g).Inv n ∧ n ≤ 65536 ∧ 0 ≤ n ∧ 0 ≤ b0 ∧ b0 < 18446744073709551616 ∧ 0 ≤ b1 ∧ b1 < 18446744073709551616 ∧ 0 ≤ va ∧ va < 4294967296), .det (.val (.one (.bool (.tm (secB (walkS n (PM.mk has bb ln dom g).at_ (Cx9.mk on cn pd0 pd1 b0 b1) va) va))))) ([.mem false [.cells [.int .i64 (.tm n), .map 3]], .mp false .i64 false has [.fptrs 4 bb], .fam false 136 .u8 ln dom g])⟩ = ((PM.Inv n (PM.mk has bb ln dom g) ∧ n ≤ (65536 : Int) ∧ (0 : Int) ≤ n ∧ (0 : Int) ≤ b0 ∧ b0 < (18446744073709551616 : Int) ∧ (0 : Int) ≤ b1 ∧ b1 < (18446744073709551616 : Int) ∧ (0 : Int) ≤ va ∧ va < (4294967296 : Int)) ∧ (decide ((walkS n (PM.mk has bb ln dom g).at_ (Cx9.mk on cn pd0 pd1 b0 b1) va).f.kind = (0 : Int)) = true → decide ((walkS n (PM.mk has bb ln dom g).at_ (Cx9.mk on cn pd0 pd1 b0 b1) va).f.kind = (0 : Int)) = true) ∧ ((decide ((walkS n (PM.mk has bb ln dom g).at_ (Cx9.mk on cn pd0 pd1 b0 b1) va).f.kind = (0 : Int)) = true → decide ((walkS n (PM.mk has bb ln dom g).at_ (Cx9.mk on cn pd0 pd1 b0 b1) va).f.kind = (0 : Int)) = true) ∧ (decide ((walkS n (PM.mk has bb ln dom g).at_ (Cx9.mk on cn pd0 pd1 b0 b1) va).f.kind = (0 : Int)) = true → decide ((walkS n (PM.mk has bb ln dom g).at_ (Cx9.mk on cn pd0 pd1 b0 b1) va).f.kind = (0 : Int)) = true)) ∧ ((decide ((walkS n (PM.mk has bb ln dom g).at_ (Cx9.mk on cn pd0 pd1 b0 b1) va).f.kind = (0 : Int)) = true → decide ((walkS n (PM.mk has bb ln dom g).at_ (Cx9.mk on cn pd0 pd1 b0 b1) va).f.kind = (0 : Int)) = true) ∧ (decide ((walkS n (PM.mk has bb ln dom g).at_ (Cx9.mk on cn pd0 pd1 b0 b1) va).f.kind = (0 : Int)) = true → decide ((walkS n (PM.mk has bb ln dom g).at_ (Cx9.mk on cn pd0 pd1 b0 b1) va).f.kind = (0 : Int)) = true)) ∧ (decide ((walkS n (PM.mk has bb ln dom g).at_ (Cx9.mk on cn pd0 pd1 b0 b1) va).f.kind = (0 : Int)) = true → decide ((walkS n (PM.mk has bb ln dom g).at_ (Cx9.mk on cn pd0 pd1 b0 b1) va).f.kind = (0 : Int)) = true) ∧ (bif decide ((walkS n (PM.mk has bb ln dom g).at_ (Cx9.mk on cn pd0 pd1 b0 b1) va).f.kind = (0 : Int)) then decide ((walkS n (PM.mk has bb ln dom g).at_ (Cx9.mk on cn pd0 pd1 b0 b1) va).t.size = (3 : Int)) && (decide ((walkS n (PM.mk has bb ln dom g).at_ (Cx9.mk on cn pd0 pd1 b0 b1) va).t.va = bits BinOp.andNot IntKind.u32 va (1048575 : Int)) && (decide ((walkS n (PM.mk has bb ln dom g).at_ (Cx9.mk on cn pd0 pd1 b0 b1) va).t.pa = (0 : Int)) && (decide ((walkS n (PM.mk has bb ln dom g).at_ (Cx9.mk on cn pd0 pd1 b0 b1) va).t.dom = (0 : Int)) && (decide ((walkS n (PM.mk has bb ln dom g).at_ (Cx9.mk on cn pd0 pd1 b0 b1) va).t.ap = (3 : Int)) && (decide ((walkS n (PM.mk has bb ln dom g).at_ (Cx9.mk on cn pd0 pd1 b0 b1) va).t.bits = (0 : Int)) && (!(walkS n (PM.mk has bb ln dom g).at_ (Cx9.mk on cn pd0 pd1 b0 b1) va).t.ng && !(walkS n (PM.mk has bb ln dom g).at_ (Cx9.mk on cn pd0 pd1 b0 b1) va).t.xn)))))) else false) = secB (walkS n (PM.mk has bb ln dom g).at_ (Cx9.mk on cn pd0 pd1 b0 b1) va) va ∧ n = n ∧ ((∀ (i : Int), has i = has i) ∧ ∀ (i : Int), has i = true → bb i = bb i) ∧ ∀ (b : Nat), dom b = true → dom b = true ∧ ln b = ln b ∧ ∀ (j : Nat), j < ln b → g b j = g b j) from by kernel_rfl]
  obtain ⟨hI, hn2, hn0, c1, c2, c3, c4, v0, v1⟩ := hn
  have e := an_u32 v0 v1 20 (by decide) 1048575 1048576 (by decide) (by decide)
  rw [e]
  generalize walkS n (PM.mk has bb ln dom g).at_ (Cx9.mk on cn pd0 pd1 b0 b1) va = W
  refine ⟨⟨hI, hn2, hn0, c1, c2, c3, c4, v0, v1⟩, id, ⟨id, id⟩, ⟨id, id⟩, id, ?_, rfl, ⟨fun _ => rfl, fun _ _ => rfl⟩, (fun _ h => ⟨h, rfl, fun _ _ => rfl⟩)⟩
  rw [bif_and]; rfl
theorem sectC_ch (n : Int) (has : Int → Bool) (bb : Int → Nat) (ln : Nat → Nat) (dom : Nat → Bool) (g : Nat → Nat → Int) (on tre afe pd0 pd1 : Bool) (cn b0 b1 da pr nm asd : Int) (va : Int) : ∃ r ∈ ([⟨none, some ((PM.mk has bb ln dom g).Inv n ∧ n ≤ 65536 ∧ 0 ≤ n ∧ 0 ≤ b0 ∧ b0 < 18446744073709551616 ∧ 0 ≤ b1 ∧ b1 < 18446744073709551616 ∧ 0 ≤ va ∧ va < 4294967296), .det (.val (.one (.bool (.tm (secB (walkS n (PM.mk has bb ln dom g).at_ (Cx9.mk on cn pd0 pd1 b0 b1) va) va))))) ([.mem false [.cells [.int .i64 (.tm n), .map 3]], .mp false .i64 false has [.fptrs 4 bb], .fam false 136 .u8 ln dom g])⟩] : List Res), holdsP r.g ∧ (holdsP r.need → r.r.shaped [.mem false [.cells [.int .i64 (.tm n), .map 3]], .mp false .i64 false has [.fptrs 4 bb], .fam false 136 .u8 ln dom g] ∧ ∃ anns, fnVC Tryd.prog GTab (callOf Tryd.prog GTab [walkC]) anns Tryd.f21 ((Tryd.f21.body).getD .skip) [.val (.one (.ptr 2 0)), .val (.agg [.bool (.tm on), .bool (.tm tre), .bool (.tm afe), .int .i64 (.tm cn), .bool (.tm pd0), .bool (.tm pd1), .int .u64 (.tm b0), .int .u64 (.tm b1), .int .u32 (.tm da), .int .u32 (.tm pr), .int .u32 (.tm nm), .int .i64 (.tm asd)]), .val (.one (.int .u32 (.tm va)))] [.mem false [.cells [.int .i64 (.tm n), .map 3]], .mp false .i64 false has [.fptrs 4 bb], .fam false 136 .u8 ln dom g] r) := by
  exact ⟨_, List.mem_cons_self, trivial, fun hn => ⟨trivial, sectC_p0 n has bb ln dom g on tre afe pd0 pd1 cn b0 b1 da pr nm asd va hn⟩⟩
theorem sectC_ok : sectC.ok Tryd.prog GTab := by
  refine con_ok (cs := [walkC]) (body := (Tryd.f21.body).getD .skip) ?_ Tryd.func21 rfl ?_
  · intro c h
    simp only [List.mem_cons, List.not_mem_nil, or_false] at h
    rcases h with rfl
    · exact walkC_ok
  · intro args h l hl
    unfold sectC at hl
    dsimp only at hl
    split at hl
    · cases hl
      exact sectC_ch _ _ _ _ _ _ _ _ _ _ _ _ _ _ _ _ _ _ _
    · cases hl
end Go.Proofs.YtpdijogpbnaplaaDoor.con
