/- Spaces of the program: the known spaces, rising, in new memory. -/
import Derived.Test.YtcecdpebapkfaaaRefB
import Derived.Test.YtcecdpebapkfaaaSortB
import Derived.KernelRfl
namespace Go.Proofs.Ytcecdpebapkfaaa.con
open Go Go.Proofs.YtcecdpebapkfaaaHy
set_option maxRecDepth 100000
set_option maxHeartbeats 4000000
noncomputable def keysL (has : Int → Bool) : List Int := by
  classical
  exact if h : ∃ l : List Int, l.Pairwise (· < ·) ∧ ∀ k, k ∈ l ↔ has k = true then Classical.choose h else []
def KeysOk (has : Int → Bool) : Prop := (keysL has).Pairwise (· < ·) ∧ ∀ k, k ∈ keysL has ↔ has k = true
theorem keysOk_of {has : Int → Bool} (l : List Int) (h1 : l.Pairwise (· < ·)) (h2 : ∀ k, k ∈ l ↔ has k = true) : KeysOk has := by
  have h : ∃ l : List Int, l.Pairwise (· < ·) ∧ ∀ k, k ∈ l ↔ has k = true := ⟨l, h1, h2⟩
  unfold KeysOk keysL
  rw [dif_pos h]
  exact Classical.choose_spec h
theorem strict_ext : ∀ {l m : List Int}, l.Pairwise (· < ·) → m.Pairwise (· < ·) → (∀ k, k ∈ l ↔ k ∈ m) → l = m
  | [], [], _, _, _ => rfl
  | [], y :: m, _, _, h => by have := (h y).2 (by simp); simp at this
  | x :: l, [], _, _, h => by have := (h x).1 (by simp); simp at this
  | x :: l, y :: m, h1, h2, h => by
    rw [List.pairwise_cons] at h1 h2
    have hxy : x = y := by
      have a := (h x).1 (by simp)
      have b := (h y).2 (by simp)
      rcases List.mem_cons.1 a with a | a
      · exact a
      · rcases List.mem_cons.1 b with b | b
        · exact b.symm
        · have := h2.1 x a
          have := h1.1 y b
          omega
    subst hxy
    congr 1
    refine strict_ext h1.2 h2.2 (fun k => ?_)
    constructor
    · intro hk
      have := (h k).1 (by simp [hk])
      rcases List.mem_cons.1 this with e | e
      · subst e; exact absurd (h1.1 k hk) (by omega)
      · exact e
    · intro hk
      have := (h k).2 (by simp [hk])
      rcases List.mem_cons.1 this with e | e
      · subst e; exact absurd (h2.1 k hk) (by omega)
      · exact e
theorem nodup_of_inj {m : Nat} {f : Nat → Int} (h : ∀ i j, i < m → j < m → f i = f j → i = j) : ((List.range m).map f).Nodup := by
  rw [List.Nodup, List.pairwise_map]
  refine List.Pairwise.imp_of_mem ?_ List.nodup_range
  intro a b ha hb hne he
  exact hne (h a b (by simpa using ha) (by simpa using hb) he)
theorem strict_of_le {l : List Int} (h1 : l.Pairwise (· ≤ ·)) (h2 : l.Nodup) : l.Pairwise (· < ·) := by
  have := List.Pairwise.and h1 h2
  exact this.imp (fun h => by have := h.1; have := h.2; omega)
theorem sort_keys {has : Int → Bool} (hk : KeysOk has) {m : Nat} {f : Nat → Int} (h1 : ∀ i, i < m → has (f i) = true) (h2 : ∀ k, has k = true → ∃ i, i < m ∧ f i = k) (h3 : ∀ i j, i < m → j < m → f i = f j → i = j) : sortL m f = keysL has := by
  have hp : (sortL m f).Perm ((List.range m).map f) := List.mergeSort_perm _ _
  refine strict_ext (strict_of_le ?_ (hp.nodup_iff.2 (nodup_of_inj h3))) hk.1 (fun k => ?_)
  · have := List.pairwise_mergeSort (le := fun x y : Int => decide (x ≤ y)) (fun a b c => by simp; omega) (fun a b => by simp; omega) ((List.range m).map f)
    exact this.imp (fun h => by simpa using h)
  · rw [hp.mem_iff, hk.2]
    simp only [List.mem_map, List.mem_range]
    constructor
    · rintro ⟨i, hi, rfl⟩; exact h1 i hi
    · intro h; obtain ⟨i, hi, he⟩ := h2 k h; exact ⟨i, hi, he⟩
theorem keys_len {has : Int → Bool} (hk : KeysOk has) {m : Nat} {f : Nat → Int} (h1 : ∀ i, i < m → has (f i) = true) (h3 : ∀ i j, i < m → j < m → f i = f j → i = j) : m ≤ (keysL has).length := by
  have hn := nodup_of_inj h3
  have hs : ∀ x ∈ (List.range m).map f, x ∈ keysL has := by
    intro x hx
    simp only [List.mem_map, List.mem_range] at hx
    obtain ⟨i, hi, rfl⟩ := hx
    exact (hk.2 _).2 (h1 i hi)
  have := List.Nodup.length_le_of_subset hn hs
  simpa using this
structure SpX where
  m : Nat
  f : Nat → Int
  seen : Int → Bool
  g : Gh
noncomputable def sortC : Con := sortCon 37 0 3
theorem sortC_ok : sortC.ok Try.prog [] := sortCon_ok (G := []) (Any.slices_Sort_int_none Try.lays189) Try.slices_Sort_int
noncomputable def spacesC : Con := ⟨22, fun args h => match args, h with
  | [.val (.one (.ptr 0 0))], [.mem false [.cells [.int .i64 (.tm last), .int .i64 (.tm gen), .map 1], .arr 256 [.bools tk], .cells [.int .i64 (.tm act)]], .mp false .i64 true has [.ints .i64 av, .ints .i64 gv]] => some [⟨none, some (KeysOk has ∧ ((keysL has).length + (keysL has).length / 4 + 192) * 8 ≤ 281474976710656), .val (.one (.vec 2)), [.mem false [.cells [.int .i64 (.tm last), .int .i64 (.tm gen), .map 1], .arr 256 [.bools tk], .cells [.int .i64 (.tm act)]], .mp false .i64 true has [.ints .i64 av, .ints .i64 gv], .vec true 3 (keysL has).length [.ints .i64 fun i => (keysL has).getD i 0]]⟩]
  | _, _ => none, true⟩
theorem spacesC_p0 (last gen act : Int) (tk : Nat → Bool) (has : Int → Bool) (av gv : Int → Int) (hn : KeysOk has ∧ ((keysL has).length + (keysL has).length / 4 + 192) * 8 ≤ 281474976710656) : ∃ anns, fnVC Try.prog [] (callOf Try.prog [] [sortC]) anns Try.f22 ((Try.f22.body).getD .skip) [.val (.one (.ptr 0 0))] [.mem false [.cells [.int .i64 (.tm last), .int .i64 (.tm gen), .map 1], .arr 256 [.bools tk], .cells [.int .i64 (.tm act)]], .mp false .i64 true has [.ints .i64 av, .ints .i64 gv]] ⟨none, some (KeysOk has ∧ ((keysL has).length + (keysL has).length / 4 + 192) * 8 ≤ 281474976710656), .val (.one (.vec 2)), [.mem false [.cells [.int .i64 (.tm last), .int .i64 (.tm gen), .map 1], .arr 256 [.bools tk], .cells [.int .i64 (.tm act)]], .mp false .i64 true has [.ints .i64 av, .ints .i64 gv], .vec true 3 (keysL has).length [.ints .i64 fun i => (keysL has).getD i 0]]⟩ := by
  refine ⟨⟨[⟨SpX, fun σ x => setM [(1, .mpl false .i64 true has [.ints .i64 av, .ints .i64 gv] x.g), (3, .vec true 3 x.m [.ints .i64 x.f]), (4, .itr true 1 x.g x.seen none)] (setT [(3, .val (.one (.vec 3)))] σ), fun _ x => (∀ k, x.g.dom k = has k) ∧ (∀ i, i < x.m → has (x.f i) = true ∧ x.seen (x.f i) = true) ∧ (∀ k, has k = true → x.seen k = true → ∃ i, i < x.m ∧ x.f i = k) ∧ ∀ i j, i < x.m → j < x.m → x.f i = x.f j → i = j, fun x => (keysL has).length - x.m⟩], [], []⟩, ?_⟩
  rw [show fnVC Try.prog [] (callOf Try.prog [] [sortC]) ⟨[⟨SpX, fun σ x => setM [(1, .mpl false .i64 true has [.ints .i64 av, .ints .i64 gv] x.g), (3, .vec true 3 x.m [.ints .i64 x.f]), (4, .itr true 1 x.g x.seen none)] (setT [(3, .val (.one (.vec 3)))] σ), fun _ x => (∀ k, x.g.dom k = has k) ∧ (∀ i, i < x.m → has (x.f i) = true ∧ x.seen (x.f i) = true) ∧ (∀ k, has k = true → x.seen k = true → ∃ i, i < x.m ∧ x.f i = k) ∧ ∀ i j, i < x.m → j < x.m → x.f i = x.f j → i = j, fun x => (keysL has).length - x.m⟩], [], []⟩ Try.f22 ((Try.f22.body).getD .skip) [.val (.one (.ptr 0 0))] [.mem false [.cells [.int .i64 (.tm last), .int .i64 (.tm gen), .map 1], .arr 256 [.bools tk], .cells [.int .i64 (.tm act)]], .mp false .i64 true has [.ints .i64 av, .ints .i64 gv]] ⟨none, some (KeysOk has ∧ ((keysL has).length + (keysL has).length / 4 + 192) * 8 ≤ 281474976710656), .val (.one (.vec 2)), [.mem false [.cells [.int .i64 (.tm last), .int .i64 (.tm gen), .map 1], .arr 256 [.bools tk], .cells [.int .i64 (.tm act)]], .mp false .i64 true has [.ints .i64 av, .ints .i64 gv], .vec true 3 (keysL has).length [.ints .i64 fun i => (keysL has).getD i 0]]⟩ = (∀ (x : Gh), (∀ (k : Int), x.1 k = has k) → (∃ (x_1 : SpX), ((∀ (k : Int), x_1.g.1 k = has k) ∧ (∀ (i : Nat), i < x_1.m → has (x_1.f i) = true ∧ x_1.seen (x_1.f i) = true) ∧ (∀ (k : Int), has k = true → x_1.seen k = true → ∃ (i : Nat), i < x_1.m ∧ x_1.f i = k) ∧ ∀ (i j : Nat), i < x_1.m → j < x_1.m → x_1.f i = x_1.f j → i = j) ∧ ((last = last ∧ gen = gen) ∧ (256 : Nat) = (256 : Nat) ∧ (∀ (i : Nat), i < (256 : Nat) → tk i = tk i) ∧ act = act) ∧ (((∀ (i : Int), has i = has i) ∧ x = x_1.g) ∧ (∀ (i : Int), has i = true → av i = av i) ∧ ∀ (i : Int), has i = true → gv i = gv i) ∧ ((0 : Nat) = (0 : Nat) ∧ ∀ (i : Nat), i < (0 : Nat) → (0 : Int) = (0 : Int)) ∧ ((0 : Nat) = x_1.m ∧ ∀ (i : Nat), i < (0 : Nat) → (0 : Int) = x_1.f i) ∧ x = x_1.g ∧ ∀ (i : Int), x.1 i = true → false = x_1.seen i) ∧ ∀ (x : SpX), ((∀ (k : Int), x.g.1 k = has k) ∧ (∀ (i : Nat), i < x.m → has (x.f i) = true ∧ x.seen (x.f i) = true) ∧ (∀ (k : Int), has k = true → x.seen k = true → ∃ (i : Nat), i < x.m ∧ x.f i = k) ∧ ∀ (i j : Nat), i < x.m → j < x.m → x.f i = x.f j → i = j) → ∀ (x_1 : Int), ((∀ (j : Int), has j = true → x.seen j = true) → x.g = x.g ∧ x.m < (4611686018427387904 : Nat) ∧ ((last = last ∧ gen = gen) ∧ (256 : Nat) = (256 : Nat) ∧ (∀ (i : Nat), i < (256 : Nat) → tk i = tk i) ∧ act = act) ∧ ((∀ (i : Int), has i = has i) ∧ (∀ (i : Int), has i = true → av i = av i) ∧ ∀ (i : Int), has i = true → gv i = gv i) ∧ x.m = (keysL has).length ∧ ∀ (i : Nat), i < x.m → (sortL x.m x.f).getD i (0 : Int) = (keysL has).getD i (0 : Int)) ∧ (has x_1 = true ∧ x.seen x_1 = false → x.g = x.g ∧ ∀ (x_2 : Unit), (x.g = x.g ∧ has x_1 = true) ∧ (x.m + (1 : Nat) + (x.m + (1 : Nat)) / (4 : Nat) + (192 : Nat)) * (8 : Nat) ≤ (281474976710656 : Nat) ∧ ∃ (y : SpX), ((∀ (k : Int), y.g.1 k = has k) ∧ (∀ (i : Nat), i < y.m → has (y.f i) = true ∧ y.seen (y.f i) = true) ∧ (∀ (k : Int), has k = true → y.seen k = true → ∃ (i : Nat), i < y.m ∧ y.f i = k) ∧ ∀ (i j : Nat), i < y.m → j < y.m → y.f i = y.f j → i = j) ∧ (keysL has).length - y.m < (keysL has).length - x.m ∧ ((last = last ∧ gen = gen) ∧ (256 : Nat) = (256 : Nat) ∧ (∀ (i : Nat), i < (256 : Nat) → tk i = tk i) ∧ act = act) ∧ (((∀ (i : Int), has i = has i) ∧ x.g = y.g) ∧ (∀ (i : Int), has i = true → av i = av i) ∧ ∀ (i : Int), has i = true → gv i = gv i) ∧ ((0 : Nat) = (0 : Nat) ∧ ∀ (i : Nat), i < (0 : Nat) → (0 : Int) = (0 : Int)) ∧ (x.m + (1 : Nat) = y.m ∧ ∀ (i : Nat), i < x.m + (1 : Nat) → appN x.f x.m (fun (x : Nat) => x_1) i = y.f i) ∧ x.g = y.g ∧ ∀ (i : Int), x.g.1 i = true → putK x.seen x_1 true i = y.seen i)) from by kernel_rfl]
  simp only [imp_self, and_self, implies_true, and_true, true_and]
  obtain ⟨hk, hn⟩ := hn
  intro g hg
  refine ⟨⟨⟨0, fun _ => 0, fun _ => false, g⟩, ⟨hg, fun i hi => absurd hi (Nat.not_lt_zero i), fun k _ h => (by cases h), fun i j hi => absurd hi (Nat.not_lt_zero i)⟩, rfl, ⟨rfl, fun i _ => rfl⟩, rfl, fun _ _ => rfl⟩, fun x hx => ?_⟩
  obtain ⟨x1, x2, x3, x4⟩ := hx
  have hlen := keys_len hk (fun i hi => (x2 i hi).1) x4
  intro k
  have hm : x.m < 4611686018427387904 := by
    generalize (keysL has).length = L at hn hlen
    omega
  refine ⟨fun hall => ⟨hm, ?_⟩, fun h _ => ?_⟩
  · have hs := sort_keys hk (fun i hi => (x2 i hi).1) (fun k hk => x3 k hk (hall k hk)) x4
    refine ⟨?_, fun i _ => by rw [hs]⟩
    rw [← hs, sortL_len]
  · obtain ⟨h1, h2⟩ := h
    have hnew : ∀ i, i < x.m → x.f i ≠ k := fun i hi e => by rw [← e, (x2 i hi).2] at h2; cases h2
    have hlt : x.m + 1 ≤ (keysL has).length := by
      refine keys_len hk (m := x.m + 1) (f := appN x.f x.m fun _ => k) (fun i hi => ?_) (fun i j hi hj he => ?_)
      · unfold appN
        split
        · rename_i h; exact (x2 i h).1
        · exact h1
      · unfold appN at he
        split at he <;> split at he
        · rename_i a b; exact x4 i j a b he
        · rename_i a b; exact absurd he (hnew i a)
        · rename_i a b; exact absurd he.symm (hnew j b)
        · omega
    generalize (keysL has).length = L at hn hlt hlen ⊢
    have hbd : (x.m + 1 + (x.m + 1) / 4 + 192) * 8 ≤ 281474976710656 := room_mono hlt hn
    refine ⟨h1, hbd, SpX.mk (x.m + 1) (appN x.f x.m fun _ => k) (putK x.seen k true) x.g, ?_⟩
    dsimp only
    refine ⟨⟨x1, fun i hi => ?_, fun q hq hs => ?_, fun i j hi hj he => ?_⟩, by omega, rfl, ⟨rfl, fun _ _ => rfl⟩, rfl, fun _ _ => rfl⟩
    · simp only [appN, putK]
      by_cases h : i < x.m
      · rw [if_pos h]
        refine ⟨(x2 i h).1, ?_⟩
        split
        · rfl
        · exact (x2 i h).2
      · rw [if_neg h]; exact ⟨h1, by simp⟩
    · simp only [putK] at hs
      by_cases h : q = k
      · exact ⟨x.m, Nat.lt_succ_self _, by simp [appN, h]⟩
      · rw [if_neg h] at hs
        obtain ⟨i, hi, he⟩ := x3 q hq hs
        exact ⟨i, Nat.lt_succ_of_lt hi, by simp [appN, hi, he]⟩
    · simp only [appN] at he
      split at he <;> split at he
      · rename_i a b; exact x4 i j a b he
      · rename_i a b; exact absurd he (hnew i a)
      · rename_i a b; exact absurd he.symm (hnew j b)
      · omega
theorem spacesC_ch (last gen act : Int) (tk : Nat → Bool) (has : Int → Bool) (av gv : Int → Int) : ∃ r ∈ ([⟨none, some (KeysOk has ∧ ((keysL has).length + (keysL has).length / 4 + 192) * 8 ≤ 281474976710656), .val (.one (.vec 2)), [.mem false [.cells [.int .i64 (.tm last), .int .i64 (.tm gen), .map 1], .arr 256 [.bools tk], .cells [.int .i64 (.tm act)]], .mp false .i64 true has [.ints .i64 av, .ints .i64 gv], .vec true 3 (keysL has).length [.ints .i64 fun i => (keysL has).getD i 0]]⟩] : List Res), holdsP r.g ∧ (holdsP r.need → ∃ anns, fnVC Try.prog [] (callOf Try.prog [] [sortC]) anns Try.f22 ((Try.f22.body).getD .skip) [.val (.one (.ptr 0 0))] [.mem false [.cells [.int .i64 (.tm last), .int .i64 (.tm gen), .map 1], .arr 256 [.bools tk], .cells [.int .i64 (.tm act)]], .mp false .i64 true has [.ints .i64 av, .ints .i64 gv]] r) := by
  exact ⟨_, List.mem_cons_self, trivial, fun hn => spacesC_p0 last gen act tk has av gv hn⟩
theorem spacesC_ok : spacesC.ok Try.prog [] := by
  refine con_ok (cs := [sortC]) (body := (Try.f22.body).getD .skip) ?_ Try.func22 rfl ?_
  · intro c h
    simp only [List.mem_cons, List.not_mem_nil, or_false] at h
    rcases h with rfl
    · exact sortC_ok
  · intro args h l hl
    unfold spacesC at hl
    dsimp only at hl
    split at hl
    · cases hl
      exact spacesC_ch _ _ _ _ _ _ _
    · cases hl
end Go.Proofs.Ytcecdpebapkfaaa.con
