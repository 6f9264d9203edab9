/- The document's memory: its functions as contracts. -/
import Derived.Test.YtpdijogpbnaplaaDoorPrg
import Derived.KernelRfl
namespace Go.Proofs.YtpdijogpbnaplaaDoor.con
open Go Go.Proofs.YtpdijogpbnaplaaDoorHz
set_option maxRecDepth 100000
set_option maxHeartbeats 4000000
theorem nodup_of_inj {m : Nat} {f : Nat → Int} (h : ∀ i j, i < m → j < m → f i = f j → i = j) : ((List.range m).map f).Nodup := by
  rw [List.Nodup, List.pairwise_map]
  refine List.Pairwise.imp_of_mem ?_ List.nodup_range
  intro a b ha hb hne he
  exact hne (h a b (by simpa using ha) (by simpa using hb) he)
structure RM where
  cnt : Nat
  no : Nat → Int
  bb : Nat → Nat
  sl : Nat → Nat
  ln : Nat → Nat
  dom : Nat → Bool
  g : Nat → Nat → Int
structure RM.Inv (n : Int) (m : RM) : Prop where
  ln : ∀ b, m.ln b = 4096
  sl : ∀ i, i < m.cnt → m.sl i = 4096
  key : ∀ i, i < m.cnt → 0 ≤ m.no i ∧ m.no i < n ∧ m.dom (m.bb i) = true
  uniq : ∀ i j, i < m.cnt → j < m.cnt → m.no i = m.no j → i = j
  inj : ∀ i j, i < m.cnt → j < m.cnt → m.bb i = m.bb j → i = j
  byte : ∀ b j, m.dom b = true → j < 4096 → 0 ≤ m.g b j ∧ m.g b j < 256
def findI (sp : Nat → Int) (s : Int) : Nat → Nat → Nat
  | 0, k => k
  | n + 1, k => if sp k = s then k else findI sp s n (k + 1)
theorem findI_bd (sp : Nat → Int) (s : Int) : ∀ (n k : Nat), k ≤ findI sp s n k ∧ findI sp s n k ≤ k + n
  | 0, k => by simp [findI]
  | n + 1, k => by
    unfold findI
    split
    · omega
    · have := findI_bd sp s n (k + 1); omega
theorem find_hit {sp : Nat → Int} {s : Int} {n : Nat} {x : Int} (h0 : 0 ≤ x) (hl : x < n) (h3 : findI sp s n 0 = findI sp s (n - x.toNat) x.toNat) (h : sp x.toNat = s) : findI sp s n 0 = x.toNat := by
  rw [h3, show n - x.toNat = (n - x.toNat - 1) + 1 by omega, findI, if_pos h]
theorem find_next {sp : Nat → Int} {s : Int} {n : Nat} {x : Int} (h0 : 0 ≤ x) (hl : x < n) (h3 : findI sp s n 0 = findI sp s (n - x.toNat) x.toNat) (h : ¬ sp x.toNat = s) : findI sp s n 0 = findI sp s (n - (x + 1).toNat) (x + 1).toNat := by
  rw [h3, show n - x.toNat = (n - (x + 1).toNat) + 1 by omega, findI, if_neg h, show (x + 1).toNat = x.toNat + 1 by omega]
theorem find_end {sp : Nat → Int} {s : Int} {n : Nat} {x : Int} (h0 : 0 ≤ x) (hx : x ≤ n) (hl : ¬ x < n) (h3 : findI sp s n 0 = findI sp s (n - x.toNat) x.toNat) : findI sp s n 0 = n := by
  rw [h3, show n - x.toNat = 0 by omega, findI]; omega
def RM.ix (m : RM) (k : Int) : Nat := findI m.no k m.cnt 0
/-- the byte at a place -/
def RM.at_ (m : RM) (a : Int) : Int := if m.ix (a / 4096) < m.cnt then m.g (m.bb (m.ix (a / 4096))) (a % 4096).toNat else 0
theorem findI_hit {sp : Nat → Int} {s : Int} : ∀ {n k : Nat}, findI sp s n k < k + n → sp (findI sp s n k) = s
  | 0, k, h => by simp [findI] at h
  | n + 1, k, h => by
    unfold findI at h ⊢
    split
    · assumption
    · rename_i hne
      rw [if_neg hne] at h
      exact findI_hit (by omega)
theorem findI_none {sp : Nat → Int} {s : Int} : ∀ {n k : Nat}, ¬ findI sp s n k < k + n → ∀ j, k ≤ j → j < k + n → sp j ≠ s
  | 0, k, _, j, h1, h2 => by omega
  | n + 1, k, h, j, h1, h2 => by
    unfold findI at h
    split at h
    · omega
    · rename_i hne
      rcases Nat.eq_or_lt_of_le h1 with rfl | h1
      · exact hne
      · exact findI_none (n := n) (k := k + 1) (by omega) j h1 (by omega)
theorem RM.ix_hit {m : RM} {k : Int} (h : m.ix k < m.cnt) : m.no (m.ix k) = k := findI_hit (by rw [Nat.zero_add]; exact h)
theorem RM.ix_none {m : RM} {k : Int} (h : ¬ m.ix k < m.cnt) {j : Nat} (hj : j < m.cnt) : m.no j ≠ k := findI_none (k := 0) (by rw [Nat.zero_add]; exact h) j (Nat.zero_le _) (by omega)
theorem RM.ix_eq {n : Int} {m : RM} (hI : m.Inv n) {i : Nat} (hi : i < m.cnt) : m.ix (m.no i) = i := by
  by_cases h : m.ix (m.no i) < m.cnt
  · exact hI.uniq _ _ h hi (RM.ix_hit h)
  · exact absurd rfl (RM.ix_none h hi)
theorem RM.ix_le (m : RM) (k : Int) : m.ix k ≤ m.cnt := by
  have := (findI_bd m.no k m.cnt 0).2
  simpa [RM.ix] using this
theorem RM.at_of {n : Int} {m : RM} (hI : m.Inv n) {i : Nat} (hi : i < m.cnt) {a : Int} (h : m.no i = a / 4096) : m.at_ a = m.g (m.bb i) (a % 4096).toNat := by
  have e := RM.ix_eq hI hi
  rw [h] at e
  unfold RM.at_
  rw [e, if_pos hi]
theorem RM.at_none {m : RM} {a : Int} (h : ∀ i, i < m.cnt → m.no i ≠ a / 4096) : m.at_ a = 0 := by
  unfold RM.at_
  rw [if_neg (fun hi => h _ hi (RM.ix_hit hi))]
theorem RM.Inv.bd {n : Int} {m : RM} (hI : m.Inv n) (a : Int) : 0 ≤ m.at_ a ∧ m.at_ a < 256 := by
  unfold RM.at_
  split
  · rename_i h
    exact hI.byte _ _ (hI.key _ h).2.2 (by omega)
  · omega
theorem RM.Inv.cnt_le {n : Int} {m : RM} (hI : m.Inv n) : m.cnt ≤ n.toNat := by
  have hn : ((List.range m.cnt).map m.no).Nodup := nodup_of_inj (fun i j hi hj e => hI.uniq i j hi hj e)
  have := List.Nodup.length_le_of_subset (l₂ := (List.range n.toNat).map Int.ofNat) hn (fun x hx => by
    simp only [List.mem_map, List.mem_range] at hx
    obtain ⟨i, hi, rfl⟩ := hx
    obtain ⟨h1, h2, _⟩ := hI.key i hi
    exact List.mem_map.2 ⟨(m.no i).toNat, List.mem_range.2 (by omega), by simp only [Int.ofNat_eq_natCast]; omega⟩)
  simpa using this
/-- a byte of a frame that there is -/
theorem rput_old {n : Int} {m : RM} (hI : m.Inv n) {a v : Int} (h : m.ix (a / 4096) < m.cnt) (h0 : 0 ≤ v) (h1 : v < 256) :
    (RM.mk m.cnt m.no m.bb m.sl m.ln m.dom (putB m.g (m.bb (m.ix (a / 4096))) (a % 4096).toNat v)).Inv n ∧ ∀ b, (RM.mk m.cnt m.no m.bb m.sl m.ln m.dom (putB m.g (m.bb (m.ix (a / 4096))) (a % 4096).toNat v)).at_ b = if b = a then v else m.at_ b := by
  refine ⟨⟨hI.ln, hI.sl, hI.key, hI.uniq, hI.inj, fun b j hb hj => ?_⟩, fun b => ?_⟩
  · simp only [putB]
    split
    · split
      · omega
      · exact hI.byte b j hb hj
    · exact hI.byte b j hb hj
  · have e : ∀ k, (RM.mk m.cnt m.no m.bb m.sl m.ln m.dom (putB m.g (m.bb (m.ix (a / 4096))) (a % 4096).toNat v)).ix k = m.ix k := fun _ => rfl
    unfold RM.at_
    rw [e]
    simp only [putB]
    by_cases hc : b / 4096 = a / 4096
    · rw [hc, if_pos h, if_pos h]
      simp only [if_true]
      by_cases he : b = a
      · rw [if_pos he, if_pos (by rw [he])]
      · rw [if_neg he, if_neg (by omega)]
    · rw [if_neg (show ¬ b = a by intro e; rw [e] at hc; exact hc rfl)]
      split
      · rename_i hb
        rw [if_neg (fun e => hc (by
          have := hI.inj _ _ hb h e
          rw [← RM.ix_hit hb, this, RM.ix_hit h]))]
      · rfl
/-- a new frame -/
theorem rput_new {n : Int} {m : RM} (hI : m.Inv n) {k : Int} (hk0 : 0 ≤ k) (hk1 : k < n) (h : ¬ m.ix k < m.cnt) {b : Nat} (hb : m.dom b = false) :
    (RM.mk (m.cnt + 1) (appN m.no m.cnt fun _ => k) (appN m.bb m.cnt fun _ => b) (appN m.sl m.cnt fun _ => 4096) m.ln (putD m.dom b) (putBlk m.g b fun _ => 0)).Inv n ∧
      (∀ a, (RM.mk (m.cnt + 1) (appN m.no m.cnt fun _ => k) (appN m.bb m.cnt fun _ => b) (appN m.sl m.cnt fun _ => 4096) m.ln (putD m.dom b) (putBlk m.g b fun _ => 0)).at_ a = m.at_ a) ∧
      (RM.mk (m.cnt + 1) (appN m.no m.cnt fun _ => k) (appN m.bb m.cnt fun _ => b) (appN m.sl m.cnt fun _ => 4096) m.ln (putD m.dom b) (putBlk m.g b fun _ => 0)).ix k = m.cnt := by
  have hne : ∀ i, i < m.cnt → m.bb i ≠ b := fun i hi e => by
    have := (hI.key i hi).2.2
    rw [e, hb] at this; cases this
  have hno : ∀ i, i < m.cnt → m.no i ≠ k := fun i hi => RM.ix_none h hi
  have hinv : (RM.mk (m.cnt + 1) (appN m.no m.cnt fun _ => k) (appN m.bb m.cnt fun _ => b) (appN m.sl m.cnt fun _ => 4096) m.ln (putD m.dom b) (putBlk m.g b fun _ => 0)).Inv n := by
    refine ⟨hI.ln, fun i hi => ?_, fun i hi => ?_, fun i j hi hj e => ?_, fun i j hi hj e => ?_, fun c j hc hj => ?_⟩
    · simp only [appN]
      split
      · rename_i h'; exact hI.sl i h'
      · rfl
    · simp only [appN, putD]
      split
      · rename_i h'
        obtain ⟨a, b', c⟩ := hI.key i h'
        refine ⟨a, b', ?_⟩
        split
        · rfl
        · exact c
      · exact ⟨hk0, hk1, by simp⟩
    · have hi : i < m.cnt + 1 := hi
      have hj : j < m.cnt + 1 := hj
      simp only [appN] at e
      split at e <;> split at e
      · rename_i a b; exact hI.uniq i j a b e
      · rename_i a b; exact absurd e (hno i a)
      · rename_i a b; exact absurd e.symm (hno j b)
      · omega
    · have hi : i < m.cnt + 1 := hi
      have hj : j < m.cnt + 1 := hj
      simp only [appN] at e
      split at e <;> split at e
      · rename_i a b; exact hI.inj i j a b e
      · rename_i a b; exact absurd e (hne i a)
      · rename_i a b; exact absurd e.symm (hne j b)
      · omega
    · simp only [putD] at hc
      simp only [putBlk]
      split
      · omega
      · rename_i hcb
        rw [if_neg hcb] at hc
        exact hI.byte c j hc hj
  refine ⟨hinv, fun a => ?_, ?_⟩
  · by_cases hx : m.ix (a / 4096) < m.cnt
    · have e1 := RM.at_of hI hx (RM.ix_hit hx)
      have e2 := RM.at_of hinv (i := m.ix (a / 4096)) (Nat.lt_succ_of_lt hx) (a := a) (by simp only [appN]; rw [if_pos hx]; exact RM.ix_hit hx)
      rw [e1, e2]
      simp only [appN, if_pos hx, putBlk, if_neg (hne _ hx)]
    · rw [RM.at_none (m := m) (fun i hi => RM.ix_none hx hi)]
      by_cases hk : a / 4096 = k
      · rw [RM.at_of hinv (i := m.cnt) (Nat.lt_succ_self _) (a := a) (by simp [appN, hk])]
        simp [appN, putBlk]
      · refine RM.at_none (fun i hi => ?_)
        have hi : i < m.cnt + 1 := hi
        simp only [appN]
        split
        · rename_i h'; exact RM.ix_none hx h'
        · exact fun e => hk e.symm
  · have := RM.ix_eq hinv (i := m.cnt) (Nat.lt_succ_self _)
    simpa [appN] using this
theorem room32 {m : Nat} (h : m ≤ 65536) : (m + 1 + (m + 1) / 4 + 192) * 32 ≤ 281474976710656 := by omega
theorem appN_at {α : Type} (f : Nat → α) (n : Nat) (h : Nat → α) : appN f n h n = h 0 := by simp [appN]
/-- a byte of a new frame -/
theorem rput_fresh {n : Int} {m : RM} (hI : m.Inv n) {a v : Int} (h0 : 0 ≤ a) (h1 : a < n * 4096) (hx : ¬ m.ix (a / 4096) < m.cnt) {b : Nat} (hb : m.dom b = false) (hv0 : 0 ≤ v) (hv1 : v < 256) :
    (RM.mk (m.cnt + 1) (appN m.no m.cnt fun _ => a / 4096) (appN m.bb m.cnt fun _ => b) (appN m.sl m.cnt fun _ => 4096) m.ln (putD m.dom b) (putB (putBlk m.g b fun _ => 0) b (a % 4096).toNat v)).Inv n ∧
      ∀ c, (RM.mk (m.cnt + 1) (appN m.no m.cnt fun _ => a / 4096) (appN m.bb m.cnt fun _ => b) (appN m.sl m.cnt fun _ => 4096) m.ln (putD m.dom b) (putB (putBlk m.g b fun _ => 0) b (a % 4096).toNat v)).at_ c = if c = a then v else m.at_ c := by
  obtain ⟨i1, i2, i3⟩ := rput_new hI (k := a / 4096) (by omega) (by omega) hx hb
  obtain ⟨j1, j2⟩ := rput_old i1 (a := a) (v := v) (by rw [i3]; exact Nat.lt_succ_self _) hv0 hv1
  rw [i3] at j1 j2
  simp only [appN_at] at j1 j2
  exact ⟨j1, fun c => by rw [j2 c, i2 c]⟩
theorem err_one {n a : Int} : err n a 1 = if a ≥ n * 4096 then 30 else 0 := by
  unfold err; rw [if_neg (by omega)]
noncomputable def endC : Con := ⟨91, fun args h => match args, h with
  | [.val (.one (.ptr 2 0))], [.mem false [.cells [.int .i64 (.tm n), .vec 3]], .vec false 152 cnt [.ints .i64 no, .fsubs 4 bb lo sl], .fam false 5 .u8 ln dom g] => some [⟨none, some (0 ≤ n ∧ n ≤ 65536), .det (.val (.one (.int .u64 (.tm (n * 4096))))) ([.mem false [.cells [.int .i64 (.tm n), .vec 3]], .vec false 152 cnt [.ints .i64 no, .fsubs 4 bb lo sl], .fam false 5 .u8 ln dom g])⟩]
  | _, _ => none, true⟩
theorem endC_p0 (n : Int) (cnt : Nat) (no : Nat → Int) (bb lo sl : Nat → Nat) (ln : Nat → Nat) (dom : Nat → Bool) (g : Nat → Nat → Int) (hn : 0 ≤ n ∧ n ≤ 65536) : ∃ anns, fnVC Tryd.prog GTab (callOf Tryd.prog GTab []) anns Tryd.f91 ((Tryd.f91.body).getD .skip) [.val (.one (.ptr 2 0))] [.mem false [.cells [.int .i64 (.tm n), .vec 3]], .vec false 152 cnt [.ints .i64 no, .fsubs 4 bb lo sl], .fam false 5 .u8 ln dom g] ⟨none, some (0 ≤ n ∧ n ≤ 65536), .det (.val (.one (.int .u64 (.tm (n * 4096))))) ([.mem false [.cells [.int .i64 (.tm n), .vec 3]], .vec false 152 cnt [.ints .i64 no, .fsubs 4 bb lo sl], .fam false 5 .u8 ln dom g])⟩ := by
  refine ⟨⟨[], [], [], [], [], [], []⟩, ?_⟩
  rw [show fnVC Tryd.prog GTab (callOf Tryd.prog GTab []) ⟨[], [], [], [], [], [], []⟩ Tryd.f91 ((Tryd.f91.body).getD .skip) [.val (.one (.ptr 2 0))] [.mem false [.cells [.int .i64 (.tm n), .vec 3]], .vec false 152 cnt [.ints .i64 no, .fsubs 4 bb lo sl], .fam false 5 .u8 ln dom g] ⟨none, some (0 ≤ n ∧ n ≤ 65536), .det (.val (.one (.int .u64 (.tm (n * 4096))))) ([.mem false [.cells [.int .i64 (.tm n), .vec 3]], .vec false 152 cnt [.ints .i64 no, .fsubs 4 bb lo sl], .fam false 5 .u8 ln dom g])⟩ = (IntKind.u64.wrap (IntKind.u64.wrap n * (4096 : Int)) = n * (4096 : Int) ∧ n = n ∧ (cnt = cnt ∧ (∀ (i : Nat), i < cnt → no i = no i) ∧ ∀ (i : Nat), i < cnt → bb i = bb i ∧ lo i = lo i ∧ sl i = sl i) ∧ ∀ (b : Nat), dom b = true → dom b = true ∧ ln b = ln b ∧ ∀ (j : Nat), j < ln b → g b j = g b j) from by kernel_rfl]
  rw [wrap_u64 (x := n) (by omega) (by omega), wrap_u64 (by omega) (by omega)]
  simp
theorem endC_ch (n : Int) (cnt : Nat) (no : Nat → Int) (bb lo sl : Nat → Nat) (ln : Nat → Nat) (dom : Nat → Bool) (g : Nat → Nat → Int) : ∃ r ∈ ([⟨none, some (0 ≤ n ∧ n ≤ 65536), .det (.val (.one (.int .u64 (.tm (n * 4096))))) ([.mem false [.cells [.int .i64 (.tm n), .vec 3]], .vec false 152 cnt [.ints .i64 no, .fsubs 4 bb lo sl], .fam false 5 .u8 ln dom g])⟩] : List Res), holdsP r.g ∧ (holdsP r.need → r.r.shaped [.mem false [.cells [.int .i64 (.tm n), .vec 3]], .vec false 152 cnt [.ints .i64 no, .fsubs 4 bb lo sl], .fam false 5 .u8 ln dom g] ∧ ∃ anns, fnVC Tryd.prog GTab (callOf Tryd.prog GTab []) anns Tryd.f91 ((Tryd.f91.body).getD .skip) [.val (.one (.ptr 2 0))] [.mem false [.cells [.int .i64 (.tm n), .vec 3]], .vec false 152 cnt [.ints .i64 no, .fsubs 4 bb lo sl], .fam false 5 .u8 ln dom g] r) := by
  exact ⟨_, List.mem_cons_self, trivial, fun hn => ⟨trivial, endC_p0 n cnt no bb lo sl ln dom g hn⟩⟩
theorem endC_ok : endC.ok Tryd.prog GTab := by
  refine con_ok (cs := []) (body := (Tryd.f91.body).getD .skip) ?_ Tryd.func91 rfl ?_
  · intro c h; cases h
  · intro args h l hl
    unfold endC at hl
    dsimp only at hl
    split at hl
    · cases hl
      exact endC_ch _ _ _ _ _ _ _ _ _
    · cases hl
noncomputable def rnewC : Con := ⟨35, fun args h => match args, h with
  | [.val (.one (.int .i64 (.tm n)))], [] => some [⟨some (n < 1 ∨ 65536 < n), none, .det (.tup [.one (.cst (.pointer none)), .one (.int .i64 (.lit 1))]) ([])⟩, ⟨some (¬ (n < 1 ∨ 65536 < n)), none, .det (.tup [.one (.ptr 2 0), .one (.int .i64 (.lit 0))]) ([.mem true [.cells [.int .i64 (.tm n), .vec 3]], .vec true 152 0 [.ints .i64 (fun _ => 0), .fsubs 4 (fun _ => 0) (fun _ => 0) (fun _ => 0)], .fam true 5 .u8 (fun _ => 4096) (fun _ => false) (fun _ _ => 0)])⟩]
  | _, _ => none, false⟩
theorem rnewC_p0 (n : Int) (hg : n < 1 ∨ 65536 < n) : ∃ anns, fnVC Tryd.prog GTab (callOf Tryd.prog GTab []) anns Tryd.f35 ((Tryd.f35.body).getD .skip) [.val (.one (.int .i64 (.tm n)))] [] ⟨some (n < 1 ∨ 65536 < n), none, .det (.tup [.one (.cst (.pointer none)), .one (.int .i64 (.lit 1))]) ([])⟩ := by
  refine ⟨⟨[], [], [], [], [], [], []⟩, ?_⟩
  rw [show fnVC Tryd.prog GTab (callOf Tryd.prog GTab []) ⟨[], [], [], [], [], [], []⟩ Tryd.f35 ((Tryd.f35.body).getD .skip) [.val (.one (.int .i64 (.tm n)))] [] ⟨some (n < 1 ∨ 65536 < n), none, .det (.tup [.one (.cst (.pointer none)), .one (.int .i64 (.lit 1))]) ([])⟩ = (((!decide (n < (1 : Int))) = true → (!decide (n < (1 : Int))) = true) ∧ (decide (n < (1 : Int)) = false → (!decide (n < (1 : Int))) = true) ∧ ((bif decide (n < (1 : Int)) then true else decide ((65536 : Int) < n)) = true → L.cst (Value.pointer none) = L.cst (Value.pointer none)) ∧ ((bif decide (n < (1 : Int)) then true else decide ((65536 : Int) < n)) = false → False)) from by kernel_rfl]
  simp; omega
theorem rnewC_p1 (n : Int) (hg : ¬ (n < 1 ∨ 65536 < n)) : ∃ anns, fnVC Tryd.prog GTab (callOf Tryd.prog GTab []) anns Tryd.f35 ((Tryd.f35.body).getD .skip) [.val (.one (.int .i64 (.tm n)))] [] ⟨some (¬ (n < 1 ∨ 65536 < n)), none, .det (.tup [.one (.ptr 2 0), .one (.int .i64 (.lit 0))]) ([.mem true [.cells [.int .i64 (.tm n), .vec 3]], .vec true 152 0 [.ints .i64 (fun _ => 0), .fsubs 4 (fun _ => 0) (fun _ => 0) (fun _ => 0)], .fam true 5 .u8 (fun _ => 4096) (fun _ => false) (fun _ _ => 0)])⟩ := by
  refine ⟨⟨[], [], [], [], [], [], []⟩, ?_⟩
  rw [show fnVC Tryd.prog GTab (callOf Tryd.prog GTab []) ⟨[], [], [], [], [], [], []⟩ Tryd.f35 ((Tryd.f35.body).getD .skip) [.val (.one (.int .i64 (.tm n)))] [] ⟨some (¬ (n < 1 ∨ 65536 < n)), none, .det (.tup [.one (.ptr 2 0), .one (.int .i64 (.lit 0))]) ([.mem true [.cells [.int .i64 (.tm n), .vec 3]], .vec true 152 0 [.ints .i64 (fun _ => 0), .fsubs 4 (fun _ => 0) (fun _ => 0) (fun _ => 0)], .fam true 5 .u8 (fun _ => 4096) (fun _ => false) (fun _ _ => 0)])⟩ = (((!decide (n < (1 : Int))) = true → (!decide (n < (1 : Int))) = true) ∧ (decide (n < (1 : Int)) = false → (!decide (n < (1 : Int))) = true) ∧ ((bif decide (n < (1 : Int)) then true else decide ((65536 : Int) < n)) = true → False) ∧ ((bif decide (n < (1 : Int)) then true else decide ((65536 : Int) < n)) = false → n = n ∧ ((0 : Nat) = (0 : Nat) ∧ (∀ (i : Nat), i < (0 : Nat) → (0 : Int) = (0 : Int)) ∧ ∀ (i : Nat), i < (0 : Nat) → (0 : Nat) = (0 : Nat) ∧ (0 : Nat) = (0 : Nat) ∧ (0 : Nat) = (0 : Nat)) ∧ ∀ (b : Nat), false = true → false = true ∧ (4096 : Nat) = (4096 : Nat) ∧ ∀ (j : Nat), j < (4096 : Nat) → (0 : Int) = (0 : Int))) from by kernel_rfl]
  simp; omega
theorem rnewC_ch (n : Int) : ∃ r ∈ ([⟨some (n < 1 ∨ 65536 < n), none, .det (.tup [.one (.cst (.pointer none)), .one (.int .i64 (.lit 1))]) ([])⟩, ⟨some (¬ (n < 1 ∨ 65536 < n)), none, .det (.tup [.one (.ptr 2 0), .one (.int .i64 (.lit 0))]) ([.mem true [.cells [.int .i64 (.tm n), .vec 3]], .vec true 152 0 [.ints .i64 (fun _ => 0), .fsubs 4 (fun _ => 0) (fun _ => 0) (fun _ => 0)], .fam true 5 .u8 (fun _ => 4096) (fun _ => false) (fun _ _ => 0)])⟩] : List Res), holdsP r.g ∧ (holdsP r.need → r.r.shaped [] ∧ ∃ anns, fnVC Tryd.prog GTab (callOf Tryd.prog GTab []) anns Tryd.f35 ((Tryd.f35.body).getD .skip) [.val (.one (.int .i64 (.tm n)))] [] r) := by
  have hx : (n < 1 ∨ 65536 < n) ∨ (¬ (n < 1 ∨ 65536 < n)) := by
    by_cases h : n < 1 ∨ 65536 < n
    · exact .inl h
    · exact .inr h
  rcases hx with h | h
  · exact ⟨_, List.mem_cons_self, h, fun _ => ⟨trivial, rnewC_p0 n h⟩⟩
  · exact ⟨_, (List.mem_cons_of_mem _ List.mem_cons_self), h, fun _ => ⟨trivial, rnewC_p1 n h⟩⟩
theorem rnewC_ok : rnewC.ok Tryd.prog GTab := by
  refine con_ok (cs := []) (body := (Tryd.f35.body).getD .skip) ?_ Tryd.func35 rfl ?_
  · intro c h; cases h
  · intro args h l hl
    unfold rnewC at hl
    dsimp only at hl
    split at hl
    · cases hl
      exact rnewC_ch _
    · cases hl
noncomputable def atC : Con := ⟨103, fun args h => match args, h with
  | [.val (.one (.ptr 2 0)), .val (.one (.int .i64 (.tm k)))], [.mem false [.cells [.int .i64 (.tm n), .vec 3]], .vec false 152 cnt [.ints .i64 no, .fsubs 4 bb lo sl], .fam false 5 .u8 ln dom g] => some [⟨none, some (cnt ≤ 65536), .det (.val (.one (.int .i64 (.tm (if (RM.mk cnt no bb sl ln dom g).ix k < cnt then ((RM.mk cnt no bb sl ln dom g).ix k : Int) else -1))))) ([.mem false [.cells [.int .i64 (.tm n), .vec 3]], .vec false 152 cnt [.ints .i64 no, .fsubs 4 bb lo sl], .fam false 5 .u8 ln dom g])⟩]
  | _, _ => none, true⟩
theorem atC_p0 (n : Int) (cnt : Nat) (no : Nat → Int) (bb lo sl : Nat → Nat) (ln : Nat → Nat) (dom : Nat → Bool) (g : Nat → Nat → Int) (k : Int) (hn : cnt ≤ 65536) : ∃ anns, fnVC Tryd.prog GTab (callOf Tryd.prog GTab []) anns Tryd.f103 ((Tryd.f103.body).getD .skip) [.val (.one (.ptr 2 0)), .val (.one (.int .i64 (.tm k)))] [.mem false [.cells [.int .i64 (.tm n), .vec 3]], .vec false 152 cnt [.ints .i64 no, .fsubs 4 bb lo sl], .fam false 5 .u8 ln dom g] ⟨none, some (cnt ≤ 65536), .det (.val (.one (.int .i64 (.tm (if (RM.mk cnt no bb sl ln dom g).ix k < cnt then ((RM.mk cnt no bb sl ln dom g).ix k : Int) else -1))))) ([.mem false [.cells [.int .i64 (.tm n), .vec 3]], .vec false 152 cnt [.ints .i64 no, .fsubs 4 bb lo sl], .fam false 5 .u8 ln dom g])⟩ := by
  refine ⟨⟨[⟨Int, fun σ i => setT [(5, .val (.one (.int .i64 (.tm i))))] σ, fun _ x => 0 ≤ x ∧ x ≤ cnt ∧ findI no k cnt 0 = findI no k (cnt - x.toNat) x.toNat, fun x => (cnt - x).toNat⟩], [], [], [], [], [], []⟩, ?_⟩
  rw [show fnVC Tryd.prog GTab (callOf Tryd.prog GTab []) ⟨[⟨Int, fun σ i => setT [(5, .val (.one (.int .i64 (.tm i))))] σ, fun _ x => 0 ≤ x ∧ x ≤ cnt ∧ findI no k cnt 0 = findI no k (cnt - x.toNat) x.toNat, fun x => (cnt - x).toNat⟩], [], [], [], [], [], []⟩ Tryd.f103 ((Tryd.f103.body).getD .skip) [.val (.one (.ptr 2 0)), .val (.one (.int .i64 (.tm k)))] [.mem false [.cells [.int .i64 (.tm n), .vec 3]], .vec false 152 cnt [.ints .i64 no, .fsubs 4 bb lo sl], .fam false 5 .u8 ln dom g] ⟨none, some (cnt ≤ 65536), .det (.val (.one (.int .i64 (.tm (if (RM.mk cnt no bb sl ln dom g).ix k < cnt then ((RM.mk cnt no bb sl ln dom g).ix k : Int) else -1))))) ([.mem false [.cells [.int .i64 (.tm n), .vec 3]], .vec false 152 cnt [.ints .i64 no, .fsubs 4 bb lo sl], .fam false 5 .u8 ln dom g])⟩ = ((∃ (x : Int), ((0 : Int) ≤ x ∧ x ≤ (↑cnt : Int) ∧ findI no k cnt (0 : Nat) = findI no k (cnt - x.toNat) x.toNat) ∧ (k = k ∧ (0 : Int) = x) ∧ n = n ∧ (cnt = cnt ∧ (∀ (i : Nat), i < cnt → no i = no i) ∧ ∀ (i : Nat), i < cnt → bb i = bb i ∧ lo i = lo i ∧ sl i = sl i) ∧ ∀ (b : Nat), dom b = true → dom b = true ∧ ln b = ln b ∧ ∀ (j : Nat), j < ln b → g b j = g b j) ∧ ∀ (x : Int), (0 : Int) ≤ x ∧ x ≤ (↑cnt : Int) ∧ findI no k cnt (0 : Nat) = findI no k (cnt - x.toNat) x.toNat → (decide (x < (↑cnt : Int)) = true → ((0 : Int) ≤ x ∧ x < (↑cnt : Int)) ∧ x.toNat < cnt ∧ (decide (no x.toNat = k) = true → (x = if (RM.mk cnt no bb sl ln dom g).ix k < cnt then (↑((RM.mk cnt no bb sl ln dom g).ix k) : Int) else (-1 : Int)) ∧ n = n ∧ (cnt = cnt ∧ (∀ (i : Nat), i < cnt → no i = no i) ∧ ∀ (i : Nat), i < cnt → bb i = bb i ∧ lo i = lo i ∧ sl i = sl i) ∧ ∀ (b : Nat), dom b = true → dom b = true ∧ ln b = ln b ∧ ∀ (j : Nat), j < ln b → g b j = g b j) ∧ (decide (no x.toNat = k) = false → ∃ (y : Int), ((0 : Int) ≤ y ∧ y ≤ (↑cnt : Int) ∧ findI no k cnt (0 : Nat) = findI no k (cnt - y.toNat) y.toNat) ∧ ((↑cnt : Int) - y).toNat < ((↑cnt : Int) - x).toNat ∧ (k = k ∧ IntKind.i64.wrap (x + (1 : Int)) = y) ∧ n = n ∧ (cnt = cnt ∧ (∀ (i : Nat), i < cnt → no i = no i) ∧ ∀ (i : Nat), i < cnt → bb i = bb i ∧ lo i = lo i ∧ sl i = sl i) ∧ ∀ (b : Nat), dom b = true → dom b = true ∧ ln b = ln b ∧ ∀ (j : Nat), j < ln b → g b j = g b j)) ∧ (decide (x < (↑cnt : Int)) = false → ((-1 : Int) = if (RM.mk cnt no bb sl ln dom g).ix k < cnt then (↑((RM.mk cnt no bb sl ln dom g).ix k) : Int) else (-1 : Int)) ∧ n = n ∧ (cnt = cnt ∧ (∀ (i : Nat), i < cnt → no i = no i) ∧ ∀ (i : Nat), i < cnt → bb i = bb i ∧ lo i = lo i ∧ sl i = sl i) ∧ ∀ (b : Nat), dom b = true → dom b = true ∧ ln b = ln b ∧ ∀ (j : Nat), j < ln b → g b j = g b j)) from by kernel_rfl]
  simp only [implies_true, and_true, true_and, imp_self]
  refine ⟨⟨0, ⟨by omega, by omega, by simp⟩, rfl⟩, fun x hx => ⟨fun h1 => ?_, fun h1 => ?_⟩⟩
  · obtain ⟨hx1, hx2, hx3⟩ := hx
    have hlt : x < cnt := by simpa using h1
    refine ⟨⟨by omega, by omega⟩, by omega, fun h2 => ?_, fun h2 => ?_⟩
    · have h4 : (RM.mk cnt no bb sl ln dom g).ix k = x.toNat := find_hit hx1 hlt hx3 (by simpa using h2)
      rw [h4, if_pos (by omega)]; omega
    · have h4 := find_next hx1 hlt hx3 (by simpa using h2)
      have hw : IntKind.i64.wrap (x + 1) = x + 1 := wrap_i64 (by omega) (by omega)
      exact ⟨x + 1, ⟨by omega, by omega, h4⟩, by omega, hw⟩
  · obtain ⟨hx1, hx2, hx3⟩ := hx
    have h4 : (RM.mk cnt no bb sl ln dom g).ix k = cnt := find_end hx1 hx2 (by simpa using h1) hx3
    rw [h4, if_neg (by omega)]
theorem atC_ch (n : Int) (cnt : Nat) (no : Nat → Int) (bb lo sl : Nat → Nat) (ln : Nat → Nat) (dom : Nat → Bool) (g : Nat → Nat → Int) (k : Int) : ∃ r ∈ ([⟨none, some (cnt ≤ 65536), .det (.val (.one (.int .i64 (.tm (if (RM.mk cnt no bb sl ln dom g).ix k < cnt then ((RM.mk cnt no bb sl ln dom g).ix k : Int) else -1))))) ([.mem false [.cells [.int .i64 (.tm n), .vec 3]], .vec false 152 cnt [.ints .i64 no, .fsubs 4 bb lo sl], .fam false 5 .u8 ln dom g])⟩] : List Res), holdsP r.g ∧ (holdsP r.need → r.r.shaped [.mem false [.cells [.int .i64 (.tm n), .vec 3]], .vec false 152 cnt [.ints .i64 no, .fsubs 4 bb lo sl], .fam false 5 .u8 ln dom g] ∧ ∃ anns, fnVC Tryd.prog GTab (callOf Tryd.prog GTab []) anns Tryd.f103 ((Tryd.f103.body).getD .skip) [.val (.one (.ptr 2 0)), .val (.one (.int .i64 (.tm k)))] [.mem false [.cells [.int .i64 (.tm n), .vec 3]], .vec false 152 cnt [.ints .i64 no, .fsubs 4 bb lo sl], .fam false 5 .u8 ln dom g] r) := by
  exact ⟨_, List.mem_cons_self, trivial, fun hn => ⟨trivial, atC_p0 n cnt no bb lo sl ln dom g k hn⟩⟩
theorem atC_ok : atC.ok Tryd.prog GTab := by
  refine con_ok (cs := []) (body := (Tryd.f103.body).getD .skip) ?_ Tryd.func103 rfl ?_
  · intro c h; cases h
  · intro args h l hl
    unfold atC at hl
    dsimp only at hl
    split at hl
    · cases hl
      exact atC_ch _ _ _ _ _ _ _ _ _ _
    · cases hl
noncomputable def putC : Con := ⟨92, fun args h => match args, h with
  | [.val (.one (.ptr 2 0)), .val (.one (.int .u64 (.tm a))), .val (.one (.int .u8 (.tm v)))], [.mem true [.cells [.int .i64 (.tm n), .vec 3]], .vec true 152 cnt [.ints .i64 no, .fsubs 4 bb lo sl], .fam true 5 .u8 ln dom g] => some [⟨none, some ((RM.mk cnt no bb sl ln dom g).Inv n ∧ (∀ i, i < cnt → lo i = 0) ∧ n ≤ 65536 ∧ 0 ≤ a ∧ a < n * 4096 ∧ 0 ≤ v ∧ v < 256), .rel RM 4 (fun x => some (x.Inv n ∧ ∀ b, 0 ≤ b → x.at_ b = if b = a then v else (RM.mk cnt no bb sl ln dom g).at_ b)) (fun x => .tup []) (fun x => [.mem true [.cells [.int .i64 (.tm n), .vec 5]], .gone, .fam true 5 .u8 x.ln x.dom x.g, .vec true 152 x.cnt [.ints .i64 x.no, .fsubs 4 x.bb (fun _ => 0) x.sl]])⟩]
  | _, _ => none, false⟩
theorem putC_p0 (n : Int) (cnt : Nat) (no : Nat → Int) (bb lo sl : Nat → Nat) (ln : Nat → Nat) (dom : Nat → Bool) (g : Nat → Nat → Int) (a v : Int) (hn : (RM.mk cnt no bb sl ln dom g).Inv n ∧ (∀ i, i < cnt → lo i = 0) ∧ n ≤ 65536 ∧ 0 ≤ a ∧ a < n * 4096 ∧ 0 ≤ v ∧ v < 256) : ∃ anns, fnVC Tryd.prog GTab (callOf Tryd.prog GTab [atC, famCon 150]) anns Tryd.f92 ((Tryd.f92.body).getD .skip) [.val (.one (.ptr 2 0)), .val (.one (.int .u64 (.tm a))), .val (.one (.int .u8 (.tm v)))] [.mem true [.cells [.int .i64 (.tm n), .vec 3]], .vec true 152 cnt [.ints .i64 no, .fsubs 4 bb lo sl], .fam true 5 .u8 ln dom g] ⟨none, some ((RM.mk cnt no bb sl ln dom g).Inv n ∧ (∀ i, i < cnt → lo i = 0) ∧ n ≤ 65536 ∧ 0 ≤ a ∧ a < n * 4096 ∧ 0 ≤ v ∧ v < 256), .rel RM 4 (fun x => some (x.Inv n ∧ ∀ b, 0 ≤ b → x.at_ b = if b = a then v else (RM.mk cnt no bb sl ln dom g).at_ b)) (fun x => .tup []) (fun x => [.mem true [.cells [.int .i64 (.tm n), .vec 5]], .gone, .fam true 5 .u8 x.ln x.dom x.g, .vec true 152 x.cnt [.ints .i64 x.no, .fsubs 4 x.bb (fun _ => 0) x.sl]])⟩ := by
  refine ⟨⟨[], [], [], [1000000150], [], [], []⟩, ?_⟩
  rw [show fnVC Tryd.prog GTab (callOf Tryd.prog GTab [atC, famCon 150]) ⟨[], [], [], [1000000150], [], [], []⟩ Tryd.f92 ((Tryd.f92.body).getD .skip) [.val (.one (.ptr 2 0)), .val (.one (.int .u64 (.tm a))), .val (.one (.int .u8 (.tm v)))] [.mem true [.cells [.int .i64 (.tm n), .vec 3]], .vec true 152 cnt [.ints .i64 no, .fsubs 4 bb lo sl], .fam true 5 .u8 ln dom g] ⟨none, some ((RM.mk cnt no bb sl ln dom g).Inv n ∧ (∀ i, i < cnt → lo i = 0) ∧ n ≤ 65536 ∧ 0 ≤ a ∧ a < n * 4096 ∧ 0 ≤ v ∧ v < 256), .rel RM 4 (fun x => some (x.Inv n ∧ ∀ b, 0 ≤ b → x.at_ b = if b = a then v else (RM.mk cnt no bb sl ln dom g).at_ b)) (fun x => .tup []) (fun x => [.mem true [.cells [.int .i64 (.tm n), .vec 5]], .gone, .fam true 5 .u8 x.ln x.dom x.g, .vec true 152 x.cnt [.ints .i64 x.no, .fsubs 4 x.bb (fun _ => 0) x.sl]])⟩ = (cnt ≤ (65536 : Nat) ∧ (decide ((if (RM.mk cnt no bb sl ln dom g).ix (IntKind.i64.wrap (IntKind.u64.wrap (a.tdiv (4096 : Int)))) < cnt then (↑((RM.mk cnt no bb sl ln dom g).ix (IntKind.i64.wrap (IntKind.u64.wrap (a.tdiv (4096 : Int))))) : Int) else (-1 : Int)) < (0 : Int)) = true → (∀ (b : Nat), ln b = (4096 : Nat)) ∧ ∀ (x : Nat), dom x = false → (cnt + (1 : Nat) + (cnt + (1 : Nat)) / (4 : Nat) + (192 : Nat)) * (32 : Nat) ≤ (281474976710656 : Nat) ∧ ((0 : Int) ≤ (↑cnt : Int) ∧ (↑cnt : Int) < (↑(cnt + (1 : Nat)) : Int)) ∧ (↑cnt : Int).toNat < cnt + (1 : Nat) ∧ ((0 : Int) ≤ a.tmod (4096 : Int) ∧ a.tmod (4096 : Int) < (↑(appN sl cnt (fun (x : Nat) => (4096 : Nat)) (↑cnt : Int).toNat) : Int)) ∧ (putD dom x (appN bb cnt (fun (x_1 : Nat) => x) (↑cnt : Int).toNat) = true ∧ appN lo cnt (fun (x : Nat) => (0 : Nat)) (↑cnt : Int).toNat + (a.tmod (4096 : Int)).toNat < ln (appN bb cnt (fun (x_1 : Nat) => x) (↑cnt : Int).toNat)) ∧ ∃ (x_1 : RM), (RM.Inv n x_1 ∧ ∀ (b : Int), (0 : Int) ≤ b → x_1.at_ b = if b = a then v else (RM.mk cnt no bb sl ln dom g).at_ b) ∧ n = n ∧ (∀ (b : Nat), x_1.dom b = true → putD dom x b = true ∧ x_1.ln b = ln b ∧ ∀ (j : Nat), j < x_1.ln b → putB (putBlk g x fun (x : Nat) => (0 : Int)) (appN bb cnt (fun (x_2 : Nat) => x) (↑cnt : Int).toNat) (appN lo cnt (fun (x : Nat) => (0 : Nat)) (↑cnt : Int).toNat + (a.tmod (4096 : Int)).toNat) v b j = x_1.g b j) ∧ cnt + (1 : Nat) = x_1.cnt ∧ (∀ (i : Nat), i < cnt + (1 : Nat) → appN no cnt (fun (x : Nat) => IntKind.i64.wrap (IntKind.u64.wrap (a.tdiv (4096 : Int)))) i = x_1.no i) ∧ ∀ (i : Nat), i < cnt + (1 : Nat) → appN bb cnt (fun (x_2 : Nat) => x) i = x_1.bb i ∧ appN lo cnt (fun (x : Nat) => (0 : Nat)) i = (0 : Nat) ∧ appN sl cnt (fun (x : Nat) => (4096 : Nat)) i = x_1.sl i) ∧ (decide ((if (RM.mk cnt no bb sl ln dom g).ix (IntKind.i64.wrap (IntKind.u64.wrap (a.tdiv (4096 : Int)))) < cnt then (↑((RM.mk cnt no bb sl ln dom g).ix (IntKind.i64.wrap (IntKind.u64.wrap (a.tdiv (4096 : Int))))) : Int) else (-1 : Int)) < (0 : Int)) = false → (((0 : Int) ≤ if (RM.mk cnt no bb sl ln dom g).ix (IntKind.i64.wrap (IntKind.u64.wrap (a.tdiv (4096 : Int)))) < cnt then (↑((RM.mk cnt no bb sl ln dom g).ix (IntKind.i64.wrap (IntKind.u64.wrap (a.tdiv (4096 : Int))))) : Int) else (-1 : Int)) ∧ (if (RM.mk cnt no bb sl ln dom g).ix (IntKind.i64.wrap (IntKind.u64.wrap (a.tdiv (4096 : Int)))) < cnt then (↑((RM.mk cnt no bb sl ln dom g).ix (IntKind.i64.wrap (IntKind.u64.wrap (a.tdiv (4096 : Int))))) : Int) else (-1 : Int)) < (↑cnt : Int)) ∧ (if (RM.mk cnt no bb sl ln dom g).ix (IntKind.i64.wrap (IntKind.u64.wrap (a.tdiv (4096 : Int)))) < cnt then (↑((RM.mk cnt no bb sl ln dom g).ix (IntKind.i64.wrap (IntKind.u64.wrap (a.tdiv (4096 : Int))))) : Int) else (-1 : Int)).toNat < cnt ∧ ((0 : Int) ≤ a.tmod (4096 : Int) ∧ a.tmod (4096 : Int) < (↑(sl (if (RM.mk cnt no bb sl ln dom g).ix (IntKind.i64.wrap (IntKind.u64.wrap (a.tdiv (4096 : Int)))) < cnt then (↑((RM.mk cnt no bb sl ln dom g).ix (IntKind.i64.wrap (IntKind.u64.wrap (a.tdiv (4096 : Int))))) : Int) else (-1 : Int)).toNat) : Int)) ∧ (dom (bb (if (RM.mk cnt no bb sl ln dom g).ix (IntKind.i64.wrap (IntKind.u64.wrap (a.tdiv (4096 : Int)))) < cnt then (↑((RM.mk cnt no bb sl ln dom g).ix (IntKind.i64.wrap (IntKind.u64.wrap (a.tdiv (4096 : Int))))) : Int) else (-1 : Int)).toNat) = true ∧ lo (if (RM.mk cnt no bb sl ln dom g).ix (IntKind.i64.wrap (IntKind.u64.wrap (a.tdiv (4096 : Int)))) < cnt then (↑((RM.mk cnt no bb sl ln dom g).ix (IntKind.i64.wrap (IntKind.u64.wrap (a.tdiv (4096 : Int))))) : Int) else (-1 : Int)).toNat + (a.tmod (4096 : Int)).toNat < ln (bb (if (RM.mk cnt no bb sl ln dom g).ix (IntKind.i64.wrap (IntKind.u64.wrap (a.tdiv (4096 : Int)))) < cnt then (↑((RM.mk cnt no bb sl ln dom g).ix (IntKind.i64.wrap (IntKind.u64.wrap (a.tdiv (4096 : Int))))) : Int) else (-1 : Int)).toNat)) ∧ ∃ (x : RM), (RM.Inv n x ∧ ∀ (b : Int), (0 : Int) ≤ b → x.at_ b = if b = a then v else (RM.mk cnt no bb sl ln dom g).at_ b) ∧ n = n ∧ (∀ (b : Nat), x.dom b = true → dom b = true ∧ x.ln b = ln b ∧ ∀ (j : Nat), j < x.ln b → putB g (bb (if (RM.mk cnt no bb sl ln dom g).ix (IntKind.i64.wrap (IntKind.u64.wrap (a.tdiv (4096 : Int)))) < cnt then (↑((RM.mk cnt no bb sl ln dom g).ix (IntKind.i64.wrap (IntKind.u64.wrap (a.tdiv (4096 : Int))))) : Int) else (-1 : Int)).toNat) (lo (if (RM.mk cnt no bb sl ln dom g).ix (IntKind.i64.wrap (IntKind.u64.wrap (a.tdiv (4096 : Int)))) < cnt then (↑((RM.mk cnt no bb sl ln dom g).ix (IntKind.i64.wrap (IntKind.u64.wrap (a.tdiv (4096 : Int))))) : Int) else (-1 : Int)).toNat + (a.tmod (4096 : Int)).toNat) v b j = x.g b j) ∧ cnt = x.cnt ∧ (∀ (i : Nat), i < cnt → no i = x.no i) ∧ ∀ (i : Nat), i < cnt → bb i = x.bb i ∧ lo i = (0 : Nat) ∧ sl i = x.sl i)) from by kernel_rfl]
  obtain ⟨hI, hl, hn2, h0, h1, hv0, hv1⟩ := hn
  have hc : cnt ≤ n.toNat := hI.cnt_le
  simp only [frame_of h0 (by omega), tmod_pos (b := 4096) h0, implies_true, and_true, true_and, imp_self, Int.toNat_natCast, appN_at, Nat.zero_add]
  have hpos : 0 ≤ a % 4096 := Int.emod_nonneg _ (by decide)
  have hpos2 : a % 4096 < 4096 := Int.emod_lt_of_pos _ (by decide)
  by_cases hx : (RM.mk cnt no bb sl ln dom g).ix (a / 4096) < cnt
  · simp only [if_pos hx, Int.toNat_natCast]
    refine ⟨by omega, fun h => ?_, fun _ => ⟨⟨by omega, by omega⟩, hx, ⟨hpos, ?_⟩, ⟨(hI.key _ hx).2.2, ?_⟩, ?_⟩⟩
    · have h := of_decide_eq_true h; omega
    · have := hI.sl _ hx
      simp only at this
      rw [this]; exact hpos2
    · have := hI.ln (bb ((RM.mk cnt no bb sl ln dom g).ix (a / 4096)))
      simp only at this
      rw [this, hl _ hx]; omega
    · obtain ⟨p1, p2⟩ := rput_old hI (a := a) (v := v) hx hv0 hv1
      rw [hl _ hx, Nat.zero_add]
      exact ⟨_, ⟨p1, fun b _ => p2 b⟩, fun b hb => ⟨hb, rfl, fun _ _ => rfl⟩, rfl, fun _ _ => rfl, fun i hi => ⟨rfl, hl i hi, rfl⟩⟩
  · simp only [if_neg hx]
    refine ⟨by omega, fun _ => ⟨hI.ln, fun b hb => ⟨room32 (by omega), ⟨by omega, by omega⟩, by omega, ⟨hpos, by omega⟩, ⟨by simp [putD], by have := hI.ln b; simp only at this; omega⟩, ?_⟩⟩, fun h => ?_⟩
    · obtain ⟨p1, p2⟩ := rput_fresh hI h0 h1 hx hb hv0 hv1
      refine ⟨_, ⟨p1, fun c _ => p2 c⟩, fun b hb => ⟨hb, rfl, fun _ _ => rfl⟩, rfl, fun _ _ => rfl, fun i hi => ⟨rfl, ?_, rfl⟩⟩
      simp only [appN]
      split
      · rename_i h'; exact hl i h'
      · rfl
    · have h := of_decide_eq_false h; omega
theorem putC_ch (n : Int) (cnt : Nat) (no : Nat → Int) (bb lo sl : Nat → Nat) (ln : Nat → Nat) (dom : Nat → Bool) (g : Nat → Nat → Int) (a v : Int) : ∃ r ∈ ([⟨none, some ((RM.mk cnt no bb sl ln dom g).Inv n ∧ (∀ i, i < cnt → lo i = 0) ∧ n ≤ 65536 ∧ 0 ≤ a ∧ a < n * 4096 ∧ 0 ≤ v ∧ v < 256), .rel RM 4 (fun x => some (x.Inv n ∧ ∀ b, 0 ≤ b → x.at_ b = if b = a then v else (RM.mk cnt no bb sl ln dom g).at_ b)) (fun x => .tup []) (fun x => [.mem true [.cells [.int .i64 (.tm n), .vec 5]], .gone, .fam true 5 .u8 x.ln x.dom x.g, .vec true 152 x.cnt [.ints .i64 x.no, .fsubs 4 x.bb (fun _ => 0) x.sl]])⟩] : List Res), holdsP r.g ∧ (holdsP r.need → r.r.shaped [.mem true [.cells [.int .i64 (.tm n), .vec 3]], .vec true 152 cnt [.ints .i64 no, .fsubs 4 bb lo sl], .fam true 5 .u8 ln dom g] ∧ ∃ anns, fnVC Tryd.prog GTab (callOf Tryd.prog GTab [atC, famCon 150]) anns Tryd.f92 ((Tryd.f92.body).getD .skip) [.val (.one (.ptr 2 0)), .val (.one (.int .u64 (.tm a))), .val (.one (.int .u8 (.tm v)))] [.mem true [.cells [.int .i64 (.tm n), .vec 3]], .vec true 152 cnt [.ints .i64 no, .fsubs 4 bb lo sl], .fam true 5 .u8 ln dom g] r) := by
  exact ⟨_, List.mem_cons_self, trivial, fun hn => ⟨fun x _ => rfl, putC_p0 n cnt no bb lo sl ln dom g a v hn⟩⟩
theorem putC_ok : putC.ok Tryd.prog GTab := by
  refine con_ok (cs := [atC, famCon 150]) (body := (Tryd.f92.body).getD .skip) ?_ Tryd.func92 rfl ?_
  · intro c h
    simp only [List.mem_cons, List.not_mem_nil, or_false] at h
    rcases h with rfl | rfl
    · exact atC_ok
    · exact famCon_ok _
  · intro args h l hl
    unfold putC at hl
    dsimp only at hl
    split at hl
    · cases hl
      exact putC_ch _ _ _ _ _ _ _ _ _ _ _
    · cases hl
noncomputable def GetC : Con := ⟨95, fun args h => match args, h with
  | [.val (.one (.ptr 2 0)), .val (.one (.int .u64 (.tm a))), .val (.one (.int .i64 (.tm k)))], [.mem false [.cells [.int .i64 (.tm n), .vec 3]], .vec false 152 cnt [.ints .i64 no, .fsubs 4 bb lo sl], .fam false 5 .u8 ln dom g] => some [⟨none, some ((RM.mk cnt no bb sl ln dom g).Inv n ∧ (∀ i, i < cnt → lo i = 0) ∧ n ≤ 65536 ∧ 0 ≤ n ∧ 0 ≤ a ∧ (k = 1 ∨ k = 2 ∨ k = 4)), .det (.tup [.one (.int .u64 (.tm (if err n a k = 0 then le (RM.mk cnt no bb sl ln dom g).at_ a k.toNat else 0))), .one (.int .i64 (.tm (err n a k)))]) ([.mem false [.cells [.int .i64 (.tm n), .vec 3]], .vec false 152 cnt [.ints .i64 no, .fsubs 4 bb lo sl], .fam false 5 .u8 ln dom g])⟩]
  | _, _ => none, true⟩
theorem GetC_p0 (n : Int) (cnt : Nat) (no : Nat → Int) (bb lo sl : Nat → Nat) (ln : Nat → Nat) (dom : Nat → Bool) (g : Nat → Nat → Int) (a k : Int) (hn : (RM.mk cnt no bb sl ln dom g).Inv n ∧ (∀ i, i < cnt → lo i = 0) ∧ n ≤ 65536 ∧ 0 ≤ n ∧ 0 ≤ a ∧ (k = 1 ∨ k = 2 ∨ k = 4)) : ∃ anns, fnVC Tryd.prog GTab (callOf Tryd.prog GTab [endC, atC]) anns Tryd.f95 ((Tryd.f95.body).getD .skip) [.val (.one (.ptr 2 0)), .val (.one (.int .u64 (.tm a))), .val (.one (.int .i64 (.tm k)))] [.mem false [.cells [.int .i64 (.tm n), .vec 3]], .vec false 152 cnt [.ints .i64 no, .fsubs 4 bb lo sl], .fam false 5 .u8 ln dom g] ⟨none, some ((RM.mk cnt no bb sl ln dom g).Inv n ∧ (∀ i, i < cnt → lo i = 0) ∧ n ≤ 65536 ∧ 0 ≤ n ∧ 0 ≤ a ∧ (k = 1 ∨ k = 2 ∨ k = 4)), .det (.tup [.one (.int .u64 (.tm (if err n a k = 0 then le (RM.mk cnt no bb sl ln dom g).at_ a k.toNat else 0))), .one (.int .i64 (.tm (err n a k)))]) ([.mem false [.cells [.int .i64 (.tm n), .vec 3]], .vec false 152 cnt [.ints .i64 no, .fsubs 4 bb lo sl], .fam false 5 .u8 ln dom g])⟩ := by
  refine ⟨⟨[⟨Int, fun σ i => setT [(9, .val (.one (.int .u64 (.tm (le (RM.mk cnt no bb sl ln dom g).at_ (a + i + 1) (k - 1 - i).toNat))))), (10, .val (.one (.int .i64 (.tm (i)))))] σ, fun _ i => -1 ≤ i ∧ i ≤ k - 1, fun i => (i + 1).toNat⟩], [], [], [], [], [], []⟩, ?_⟩
  rw [show fnVC Tryd.prog GTab (callOf Tryd.prog GTab [endC, atC]) ⟨[⟨Int, fun σ i => setT [(9, .val (.one (.int .u64 (.tm (le (RM.mk cnt no bb sl ln dom g).at_ (a + i + 1) (k - 1 - i).toNat))))), (10, .val (.one (.int .i64 (.tm (i)))))] σ, fun _ i => -1 ≤ i ∧ i ≤ k - 1, fun i => (i + 1).toNat⟩], [], [], [], [], [], []⟩ Tryd.f95 ((Tryd.f95.body).getD .skip) [.val (.one (.ptr 2 0)), .val (.one (.int .u64 (.tm a))), .val (.one (.int .i64 (.tm k)))] [.mem false [.cells [.int .i64 (.tm n), .vec 3]], .vec false 152 cnt [.ints .i64 no, .fsubs 4 bb lo sl], .fam false 5 .u8 ln dom g] ⟨none, some ((RM.mk cnt no bb sl ln dom g).Inv n ∧ (∀ i, i < cnt → lo i = 0) ∧ n ≤ 65536 ∧ 0 ≤ n ∧ 0 ≤ a ∧ (k = 1 ∨ k = 2 ∨ k = 4)), .det (.tup [.one (.int .u64 (.tm (if err n a k = 0 then le (RM.mk cnt no bb sl ln dom g).at_ a k.toNat else 0))), .one (.int .i64 (.tm (err n a k)))]) ([.mem false [.cells [.int .i64 (.tm n), .vec 3]], .vec false 152 cnt [.ints .i64 no, .fsubs 4 bb lo sl], .fam false 5 .u8 ln dom g])⟩ = ((IntKind.u64.wrap k = (0 : Int) → False) ∧ ((!decide (a.tmod (IntKind.u64.wrap k) = (0 : Int))) = true → (((0 : Int) = if err n a k = (0 : Int) then le (RM.mk cnt no bb sl ln dom g).at_ a k.toNat else (0 : Int)) ∧ (2 : Int) = err n a k) ∧ n = n ∧ (cnt = cnt ∧ (∀ (i : Nat), i < cnt → no i = no i) ∧ ∀ (i : Nat), i < cnt → bb i = bb i ∧ lo i = lo i ∧ sl i = sl i) ∧ ∀ (b : Nat), dom b = true → dom b = true ∧ ln b = ln b ∧ ∀ (j : Nat), j < ln b → g b j = g b j) ∧ ((!decide (a.tmod (IntKind.u64.wrap k) = (0 : Int))) = false → ((0 : Int) ≤ n ∧ n ≤ (65536 : Int)) ∧ ((!decide (a < n * (4096 : Int))) = true → (((0 : Int) = if err n a k = (0 : Int) then le (RM.mk cnt no bb sl ln dom g).at_ a k.toNat else (0 : Int)) ∧ (30 : Int) = err n a k) ∧ n = n ∧ (cnt = cnt ∧ (∀ (i : Nat), i < cnt → no i = no i) ∧ ∀ (i : Nat), i < cnt → bb i = bb i ∧ lo i = lo i ∧ sl i = sl i) ∧ ∀ (b : Nat), dom b = true → dom b = true ∧ ln b = ln b ∧ ∀ (j : Nat), j < ln b → g b j = g b j) ∧ ((!decide (a < n * (4096 : Int))) = false → cnt ≤ (65536 : Nat) ∧ (decide ((if (RM.mk cnt no bb sl ln dom g).ix (IntKind.i64.wrap (IntKind.u64.wrap (a.tdiv (4096 : Int)))) < cnt then (↑((RM.mk cnt no bb sl ln dom g).ix (IntKind.i64.wrap (IntKind.u64.wrap (a.tdiv (4096 : Int))))) : Int) else (-1 : Int)) < (0 : Int)) = true → (((0 : Int) = if err n a k = (0 : Int) then le (RM.mk cnt no bb sl ln dom g).at_ a k.toNat else (0 : Int)) ∧ (0 : Int) = err n a k) ∧ n = n ∧ (cnt = cnt ∧ (∀ (i : Nat), i < cnt → no i = no i) ∧ ∀ (i : Nat), i < cnt → bb i = bb i ∧ lo i = lo i ∧ sl i = sl i) ∧ ∀ (b : Nat), dom b = true → dom b = true ∧ ln b = ln b ∧ ∀ (j : Nat), j < ln b → g b j = g b j) ∧ (decide ((if (RM.mk cnt no bb sl ln dom g).ix (IntKind.i64.wrap (IntKind.u64.wrap (a.tdiv (4096 : Int)))) < cnt then (↑((RM.mk cnt no bb sl ln dom g).ix (IntKind.i64.wrap (IntKind.u64.wrap (a.tdiv (4096 : Int))))) : Int) else (-1 : Int)) < (0 : Int)) = false → (∃ (x : Int), ((-1 : Int) ≤ x ∧ x ≤ k - (1 : Int)) ∧ (a = a ∧ k = k ∧ ((if (RM.mk cnt no bb sl ln dom g).ix (IntKind.i64.wrap (IntKind.u64.wrap (a.tdiv (4096 : Int)))) < cnt then (↑((RM.mk cnt no bb sl ln dom g).ix (IntKind.i64.wrap (IntKind.u64.wrap (a.tdiv (4096 : Int))))) : Int) else (-1 : Int)) = if (RM.mk cnt no bb sl ln dom g).ix (IntKind.i64.wrap (IntKind.u64.wrap (a.tdiv (4096 : Int)))) < cnt then (↑((RM.mk cnt no bb sl ln dom g).ix (IntKind.i64.wrap (IntKind.u64.wrap (a.tdiv (4096 : Int))))) : Int) else (-1 : Int)) ∧ (0 : Int) = le (RM.mk cnt no bb sl ln dom g).at_ (a + x + (1 : Int)) (k - (1 : Int) - x).toNat ∧ IntKind.i64.wrap (k - (1 : Int)) = x ∧ a = a ∧ k = k ∧ IntKind.u64.wrap k = IntKind.u64.wrap k ∧ a.tmod (IntKind.u64.wrap k) = a.tmod (IntKind.u64.wrap k) ∧ (!decide (a.tmod (IntKind.u64.wrap k) = (0 : Int))) = !decide (a.tmod (IntKind.u64.wrap k) = (0 : Int)) ∧ a = a ∧ n * (4096 : Int) = n * (4096 : Int) ∧ (!decide (a < n * (4096 : Int))) = !decide (a < n * (4096 : Int)) ∧ a = a ∧ IntKind.u64.wrap (a.tdiv (4096 : Int)) = IntKind.u64.wrap (a.tdiv (4096 : Int)) ∧ IntKind.i64.wrap (IntKind.u64.wrap (a.tdiv (4096 : Int))) = IntKind.i64.wrap (IntKind.u64.wrap (a.tdiv (4096 : Int))) ∧ ((if (RM.mk cnt no bb sl ln dom g).ix (IntKind.i64.wrap (IntKind.u64.wrap (a.tdiv (4096 : Int)))) < cnt then (↑((RM.mk cnt no bb sl ln dom g).ix (IntKind.i64.wrap (IntKind.u64.wrap (a.tdiv (4096 : Int))))) : Int) else (-1 : Int)) = if (RM.mk cnt no bb sl ln dom g).ix (IntKind.i64.wrap (IntKind.u64.wrap (a.tdiv (4096 : Int)))) < cnt then (↑((RM.mk cnt no bb sl ln dom g).ix (IntKind.i64.wrap (IntKind.u64.wrap (a.tdiv (4096 : Int))))) : Int) else (-1 : Int)) ∧ ((if (RM.mk cnt no bb sl ln dom g).ix (IntKind.i64.wrap (IntKind.u64.wrap (a.tdiv (4096 : Int)))) < cnt then (↑((RM.mk cnt no bb sl ln dom g).ix (IntKind.i64.wrap (IntKind.u64.wrap (a.tdiv (4096 : Int))))) : Int) else (-1 : Int)) = if (RM.mk cnt no bb sl ln dom g).ix (IntKind.i64.wrap (IntKind.u64.wrap (a.tdiv (4096 : Int)))) < cnt then (↑((RM.mk cnt no bb sl ln dom g).ix (IntKind.i64.wrap (IntKind.u64.wrap (a.tdiv (4096 : Int))))) : Int) else (-1 : Int)) ∧ decide ((if (RM.mk cnt no bb sl ln dom g).ix (IntKind.i64.wrap (IntKind.u64.wrap (a.tdiv (4096 : Int)))) < cnt then (↑((RM.mk cnt no bb sl ln dom g).ix (IntKind.i64.wrap (IntKind.u64.wrap (a.tdiv (4096 : Int))))) : Int) else (-1 : Int)) < (0 : Int)) = decide ((if (RM.mk cnt no bb sl ln dom g).ix (IntKind.i64.wrap (IntKind.u64.wrap (a.tdiv (4096 : Int)))) < cnt then (↑((RM.mk cnt no bb sl ln dom g).ix (IntKind.i64.wrap (IntKind.u64.wrap (a.tdiv (4096 : Int))))) : Int) else (-1 : Int)) < (0 : Int)) ∧ k = k ∧ IntKind.i64.wrap (k - (1 : Int)) = IntKind.i64.wrap (k - (1 : Int))) ∧ n = n ∧ (cnt = cnt ∧ (∀ (i : Nat), i < cnt → no i = no i) ∧ ∀ (i : Nat), i < cnt → bb i = bb i ∧ lo i = lo i ∧ sl i = sl i) ∧ ∀ (b : Nat), dom b = true → dom b = true ∧ ln b = ln b ∧ ∀ (j : Nat), j < ln b → g b j = g b j) ∧ ∀ (x : Int), (-1 : Int) ≤ x ∧ x ≤ k - (1 : Int) → ((!decide (x < (0 : Int))) = true → (((0 : Int) ≤ if (RM.mk cnt no bb sl ln dom g).ix (IntKind.i64.wrap (IntKind.u64.wrap (a.tdiv (4096 : Int)))) < cnt then (↑((RM.mk cnt no bb sl ln dom g).ix (IntKind.i64.wrap (IntKind.u64.wrap (a.tdiv (4096 : Int))))) : Int) else (-1 : Int)) ∧ (if (RM.mk cnt no bb sl ln dom g).ix (IntKind.i64.wrap (IntKind.u64.wrap (a.tdiv (4096 : Int)))) < cnt then (↑((RM.mk cnt no bb sl ln dom g).ix (IntKind.i64.wrap (IntKind.u64.wrap (a.tdiv (4096 : Int))))) : Int) else (-1 : Int)) < (↑cnt : Int)) ∧ (if (RM.mk cnt no bb sl ln dom g).ix (IntKind.i64.wrap (IntKind.u64.wrap (a.tdiv (4096 : Int)))) < cnt then (↑((RM.mk cnt no bb sl ln dom g).ix (IntKind.i64.wrap (IntKind.u64.wrap (a.tdiv (4096 : Int))))) : Int) else (-1 : Int)).toNat < cnt ∧ ((0 : Int) ≤ IntKind.u64.wrap (a.tmod (4096 : Int) + IntKind.u64.wrap x) ∧ IntKind.u64.wrap (a.tmod (4096 : Int) + IntKind.u64.wrap x) < (↑(sl (if (RM.mk cnt no bb sl ln dom g).ix (IntKind.i64.wrap (IntKind.u64.wrap (a.tdiv (4096 : Int)))) < cnt then (↑((RM.mk cnt no bb sl ln dom g).ix (IntKind.i64.wrap (IntKind.u64.wrap (a.tdiv (4096 : Int))))) : Int) else (-1 : Int)).toNat) : Int)) ∧ (dom (bb (if (RM.mk cnt no bb sl ln dom g).ix (IntKind.i64.wrap (IntKind.u64.wrap (a.tdiv (4096 : Int)))) < cnt then (↑((RM.mk cnt no bb sl ln dom g).ix (IntKind.i64.wrap (IntKind.u64.wrap (a.tdiv (4096 : Int))))) : Int) else (-1 : Int)).toNat) = true ∧ lo (if (RM.mk cnt no bb sl ln dom g).ix (IntKind.i64.wrap (IntKind.u64.wrap (a.tdiv (4096 : Int)))) < cnt then (↑((RM.mk cnt no bb sl ln dom g).ix (IntKind.i64.wrap (IntKind.u64.wrap (a.tdiv (4096 : Int))))) : Int) else (-1 : Int)).toNat + (IntKind.u64.wrap (a.tmod (4096 : Int) + IntKind.u64.wrap x)).toNat < ln (bb (if (RM.mk cnt no bb sl ln dom g).ix (IntKind.i64.wrap (IntKind.u64.wrap (a.tdiv (4096 : Int)))) < cnt then (↑((RM.mk cnt no bb sl ln dom g).ix (IntKind.i64.wrap (IntKind.u64.wrap (a.tdiv (4096 : Int))))) : Int) else (-1 : Int)).toNat)) ∧ ∃ (y : Int), ((-1 : Int) ≤ y ∧ y ≤ k - (1 : Int)) ∧ (y + (1 : Int)).toNat < (x + (1 : Int)).toNat ∧ (a = a ∧ k = k ∧ ((if (RM.mk cnt no bb sl ln dom g).ix (IntKind.i64.wrap (IntKind.u64.wrap (a.tdiv (4096 : Int)))) < cnt then (↑((RM.mk cnt no bb sl ln dom g).ix (IntKind.i64.wrap (IntKind.u64.wrap (a.tdiv (4096 : Int))))) : Int) else (-1 : Int)) = if (RM.mk cnt no bb sl ln dom g).ix (IntKind.i64.wrap (IntKind.u64.wrap (a.tdiv (4096 : Int)))) < cnt then (↑((RM.mk cnt no bb sl ln dom g).ix (IntKind.i64.wrap (IntKind.u64.wrap (a.tdiv (4096 : Int))))) : Int) else (-1 : Int)) ∧ IntKind.u64.wrap (IntKind.u64.wrap (le (RM.mk cnt no bb sl ln dom g).at_ (a + x + (1 : Int)) (k - (1 : Int) - x).toNat * (256 : Int)) + IntKind.u64.wrap (g (bb (if (RM.mk cnt no bb sl ln dom g).ix (IntKind.i64.wrap (IntKind.u64.wrap (a.tdiv (4096 : Int)))) < cnt then (↑((RM.mk cnt no bb sl ln dom g).ix (IntKind.i64.wrap (IntKind.u64.wrap (a.tdiv (4096 : Int))))) : Int) else (-1 : Int)).toNat) (lo (if (RM.mk cnt no bb sl ln dom g).ix (IntKind.i64.wrap (IntKind.u64.wrap (a.tdiv (4096 : Int)))) < cnt then (↑((RM.mk cnt no bb sl ln dom g).ix (IntKind.i64.wrap (IntKind.u64.wrap (a.tdiv (4096 : Int))))) : Int) else (-1 : Int)).toNat + (IntKind.u64.wrap (a.tmod (4096 : Int) + IntKind.u64.wrap x)).toNat))) = le (RM.mk cnt no bb sl ln dom g).at_ (a + y + (1 : Int)) (k - (1 : Int) - y).toNat ∧ IntKind.i64.wrap (x - (1 : Int)) = y ∧ a = a ∧ k = k ∧ IntKind.u64.wrap k = IntKind.u64.wrap k ∧ a.tmod (IntKind.u64.wrap k) = a.tmod (IntKind.u64.wrap k) ∧ (!decide (a.tmod (IntKind.u64.wrap k) = (0 : Int))) = !decide (a.tmod (IntKind.u64.wrap k) = (0 : Int)) ∧ a = a ∧ n * (4096 : Int) = n * (4096 : Int) ∧ (!decide (a < n * (4096 : Int))) = !decide (a < n * (4096 : Int)) ∧ a = a ∧ IntKind.u64.wrap (a.tdiv (4096 : Int)) = IntKind.u64.wrap (a.tdiv (4096 : Int)) ∧ IntKind.i64.wrap (IntKind.u64.wrap (a.tdiv (4096 : Int))) = IntKind.i64.wrap (IntKind.u64.wrap (a.tdiv (4096 : Int))) ∧ ((if (RM.mk cnt no bb sl ln dom g).ix (IntKind.i64.wrap (IntKind.u64.wrap (a.tdiv (4096 : Int)))) < cnt then (↑((RM.mk cnt no bb sl ln dom g).ix (IntKind.i64.wrap (IntKind.u64.wrap (a.tdiv (4096 : Int))))) : Int) else (-1 : Int)) = if (RM.mk cnt no bb sl ln dom g).ix (IntKind.i64.wrap (IntKind.u64.wrap (a.tdiv (4096 : Int)))) < cnt then (↑((RM.mk cnt no bb sl ln dom g).ix (IntKind.i64.wrap (IntKind.u64.wrap (a.tdiv (4096 : Int))))) : Int) else (-1 : Int)) ∧ ((if (RM.mk cnt no bb sl ln dom g).ix (IntKind.i64.wrap (IntKind.u64.wrap (a.tdiv (4096 : Int)))) < cnt then (↑((RM.mk cnt no bb sl ln dom g).ix (IntKind.i64.wrap (IntKind.u64.wrap (a.tdiv (4096 : Int))))) : Int) else (-1 : Int)) = if (RM.mk cnt no bb sl ln dom g).ix (IntKind.i64.wrap (IntKind.u64.wrap (a.tdiv (4096 : Int)))) < cnt then (↑((RM.mk cnt no bb sl ln dom g).ix (IntKind.i64.wrap (IntKind.u64.wrap (a.tdiv (4096 : Int))))) : Int) else (-1 : Int)) ∧ decide ((if (RM.mk cnt no bb sl ln dom g).ix (IntKind.i64.wrap (IntKind.u64.wrap (a.tdiv (4096 : Int)))) < cnt then (↑((RM.mk cnt no bb sl ln dom g).ix (IntKind.i64.wrap (IntKind.u64.wrap (a.tdiv (4096 : Int))))) : Int) else (-1 : Int)) < (0 : Int)) = decide ((if (RM.mk cnt no bb sl ln dom g).ix (IntKind.i64.wrap (IntKind.u64.wrap (a.tdiv (4096 : Int)))) < cnt then (↑((RM.mk cnt no bb sl ln dom g).ix (IntKind.i64.wrap (IntKind.u64.wrap (a.tdiv (4096 : Int))))) : Int) else (-1 : Int)) < (0 : Int)) ∧ k = k ∧ IntKind.i64.wrap (k - (1 : Int)) = IntKind.i64.wrap (k - (1 : Int))) ∧ n = n ∧ (cnt = cnt ∧ (∀ (i : Nat), i < cnt → no i = no i) ∧ ∀ (i : Nat), i < cnt → bb i = bb i ∧ lo i = lo i ∧ sl i = sl i) ∧ ∀ (b : Nat), dom b = true → dom b = true ∧ ln b = ln b ∧ ∀ (j : Nat), j < ln b → g b j = g b j) ∧ ((!decide (x < (0 : Int))) = false → ((le (RM.mk cnt no bb sl ln dom g).at_ (a + x + (1 : Int)) (k - (1 : Int) - x).toNat = if err n a k = (0 : Int) then le (RM.mk cnt no bb sl ln dom g).at_ a k.toNat else (0 : Int)) ∧ (0 : Int) = err n a k) ∧ n = n ∧ (cnt = cnt ∧ (∀ (i : Nat), i < cnt → no i = no i) ∧ ∀ (i : Nat), i < cnt → bb i = bb i ∧ lo i = lo i ∧ sl i = sl i) ∧ ∀ (b : Nat), dom b = true → dom b = true ∧ ln b = ln b ∧ ∀ (j : Nat), j < ln b → g b j = g b j))))) from by kernel_rfl]
  obtain ⟨hI, hl, hn2, hn0, h0, hk⟩ := hn
  have hk1 : 1 ≤ k ∧ k ≤ 4 := by omega
  have hfit : a % k = 0 → a % 4096 + k ≤ 4096 := by rcases hk with rfl | rfl | rfl <;> omega
  have hc : cnt ≤ n.toNat := hI.cnt_le
  simp only [wrap_u64 (x := k) (by omega) (by omega), tmod_pos (b := k) h0, implies_true, and_true, true_and, imp_self]
  refine ⟨by omega, fun h => ?_, fun h => ⟨⟨hn0, hn2⟩, fun h2 => ?_, fun h2 => ?_⟩⟩
  · have h : ¬ a % k = 0 := by simpa using h
    have e : err n a k = 2 := by simp [err, h]
    simp [e]
  · have h : a % k = 0 := by simpa using h
    have h2 : n * 4096 ≤ a := by simpa using h2
    have e : err n a k = 30 := by
      unfold err; rw [if_neg (by simp [h]), if_pos (by omega)]
    simp [e]
  · have h : a % k = 0 := by simpa using h
    have h2 : a < n * 4096 := by simpa using h2
    have e : err n a k = 0 := by
      unfold err; rw [if_neg (by simp [h]), if_neg (by omega)]
    have hf := hfit h
    have hpos : 0 ≤ a % 4096 := Int.emod_nonneg _ (by decide)
    simp only [frame_of h0 (by omega), tmod_pos (b := 4096) h0, e, if_true, and_true]
    by_cases hx : (RM.mk cnt no bb sl ln dom g).ix (a / 4096) < cnt
    · have hat : ∀ i : Int, 0 ≤ i → i < k → (RM.mk cnt no bb sl ln dom g).at_ (a + i) = g (bb ((RM.mk cnt no bb sl ln dom g).ix (a / 4096))) (a % 4096 + i).toNat := fun i h1 h2 => by
        rw [RM.at_of hI (a := a + i) hx (by rw [RM.ix_hit hx]; omega), show (a + i) % 4096 = a % 4096 + i by omega]
      simp only [if_pos hx, Int.toNat_natCast, and_true]
      refine ⟨by omega, fun h3 => ?_, fun _ => ⟨⟨k - 1, ⟨by omega, by omega⟩, by rw [show k - 1 - (k - 1) = 0 by omega]; rfl, wrap_i64 (by omega) (by omega)⟩, fun x hxx => ⟨fun h3 => ?_, fun h3 => ?_⟩⟩⟩
      · have h3 := of_decide_eq_true h3; omega
      · have h3 : 0 ≤ x := by simpa using h3
        have e2 := wrap_u64 (x := x) (by omega) (by omega)
        have e3 := wrap_u64 (x := a % 4096 + x) (by omega) (by omega)
        rw [e2, e3, hl _ hx, Nat.zero_add]
        have hsl := hI.sl _ hx
        have hln := hI.ln (bb ((RM.mk cnt no bb sl ln dom g).ix (a / 4096)))
        simp only at hsl hln
        refine ⟨⟨by omega, by omega⟩, hx, ⟨by omega, by rw [hsl]; omega⟩, ⟨(hI.key _ hx).2.2, by rw [hln]; omega⟩, x - 1, ⟨by omega, by omega⟩, by omega, ?_, wrap_i64 (by omega) (by omega)⟩
        have hb := le_bd hI.bd (k - 1 - x).toNat (a + x + 1)
        have hp := pow3 (c := (k - 1 - x).toNat) (by omega)
        have hbd := hI.bd (a + x)
        rw [show a + (x - 1) + 1 = a + x by omega, show (k - 1 - (x - 1)).toNat = (k - 1 - x).toNat + 1 by omega, le, ← hat x (by omega) (by omega)]
        rw [wrap_u64 (x := le _ _ _ * 256) (by omega) (by omega), wrap_u64 (x := RM.at_ _ _) (by omega) (by omega), wrap_u64 (by omega) (by omega)]
        omega
      · have h3 : ¬ 0 ≤ x := by simpa using h3
        rw [show a + x + 1 = a by omega, show k - 1 - x = k by omega]
    · simp only [if_neg hx]
      refine ⟨by omega, fun _ => (le_zero _ _ fun b h1 h2 => ?_).symm, fun h3 => ?_⟩
      · exact RM.at_none fun i hi => by
          rw [show b / 4096 = a / 4096 by omega]; exact RM.ix_none hx hi
      · have h3 := of_decide_eq_false h3; omega
theorem GetC_ch (n : Int) (cnt : Nat) (no : Nat → Int) (bb lo sl : Nat → Nat) (ln : Nat → Nat) (dom : Nat → Bool) (g : Nat → Nat → Int) (a k : Int) : ∃ r ∈ ([⟨none, some ((RM.mk cnt no bb sl ln dom g).Inv n ∧ (∀ i, i < cnt → lo i = 0) ∧ n ≤ 65536 ∧ 0 ≤ n ∧ 0 ≤ a ∧ (k = 1 ∨ k = 2 ∨ k = 4)), .det (.tup [.one (.int .u64 (.tm (if err n a k = 0 then le (RM.mk cnt no bb sl ln dom g).at_ a k.toNat else 0))), .one (.int .i64 (.tm (err n a k)))]) ([.mem false [.cells [.int .i64 (.tm n), .vec 3]], .vec false 152 cnt [.ints .i64 no, .fsubs 4 bb lo sl], .fam false 5 .u8 ln dom g])⟩] : List Res), holdsP r.g ∧ (holdsP r.need → r.r.shaped [.mem false [.cells [.int .i64 (.tm n), .vec 3]], .vec false 152 cnt [.ints .i64 no, .fsubs 4 bb lo sl], .fam false 5 .u8 ln dom g] ∧ ∃ anns, fnVC Tryd.prog GTab (callOf Tryd.prog GTab [endC, atC]) anns Tryd.f95 ((Tryd.f95.body).getD .skip) [.val (.one (.ptr 2 0)), .val (.one (.int .u64 (.tm a))), .val (.one (.int .i64 (.tm k)))] [.mem false [.cells [.int .i64 (.tm n), .vec 3]], .vec false 152 cnt [.ints .i64 no, .fsubs 4 bb lo sl], .fam false 5 .u8 ln dom g] r) := by
  exact ⟨_, List.mem_cons_self, trivial, fun hn => ⟨trivial, GetC_p0 n cnt no bb lo sl ln dom g a k hn⟩⟩
theorem GetC_ok : GetC.ok Tryd.prog GTab := by
  refine con_ok (cs := [endC, atC]) (body := (Tryd.f95.body).getD .skip) ?_ Tryd.func95 rfl ?_
  · intro c h
    simp only [List.mem_cons, List.not_mem_nil, or_false] at h
    rcases h with rfl | rfl
    · exact endC_ok
    · exact atC_ok
  · intro args h l hl
    unfold GetC at hl
    dsimp only at hl
    split at hl
    · cases hl
      exact GetC_ch _ _ _ _ _ _ _ _ _ _ _
    · cases hl
noncomputable def SetC : Con := ⟨62, fun args h => match args, h with
  | [.val (.one (.ptr 2 0)), .val (.one (.int .u64 (.tm a))), .val (.one (.int .i64 (.tm k))), .val (.one (.int .u64 (.tm v)))], [.mem true [.cells [.int .i64 (.tm n), .vec 3]], .vec true 152 cnt [.ints .i64 no, .fsubs 4 bb lo sl], .fam true 5 .u8 ln dom g] => some [⟨none, some ((RM.mk cnt no bb sl ln dom g).Inv n ∧ (∀ i, i < cnt → lo i = 0) ∧ n ≤ 65536 ∧ 0 ≤ n ∧ 0 ≤ a ∧ (k = 1 ∨ k = 2 ∨ k = 4) ∧ 0 ≤ v ∧ v ≤ 18446744073709551615), .rel RM 4 (fun x => some (x.Inv n ∧ ∀ b, 0 ≤ b → x.at_ b = wrA n (RM.mk cnt no bb sl ln dom g).at_ a k v b)) (fun x => .val (.one (.int .i64 (.tm (err n a k))))) (fun x => [.mem true [.cells [.int .i64 (.tm n), .vec 5]], .gone, .fam true 5 .u8 x.ln x.dom x.g, .vec true 152 x.cnt [.ints .i64 x.no, .fsubs 4 x.bb (fun _ => 0) x.sl]])⟩]
  | _, _ => none, false⟩
theorem SetC_p0 (n : Int) (cnt : Nat) (no : Nat → Int) (bb lo sl : Nat → Nat) (ln : Nat → Nat) (dom : Nat → Bool) (g : Nat → Nat → Int) (a k v : Int) (hn : (RM.mk cnt no bb sl ln dom g).Inv n ∧ (∀ i, i < cnt → lo i = 0) ∧ n ≤ 65536 ∧ 0 ≤ n ∧ 0 ≤ a ∧ (k = 1 ∨ k = 2 ∨ k = 4) ∧ 0 ≤ v ∧ v ≤ 18446744073709551615) : ∃ anns, fnVC Tryd.prog GTab (callOf Tryd.prog GTab [endC, putC]) anns Tryd.f62 ((Tryd.f62.body).getD .skip) [.val (.one (.ptr 2 0)), .val (.one (.int .u64 (.tm a))), .val (.one (.int .i64 (.tm k))), .val (.one (.int .u64 (.tm v)))] [.mem true [.cells [.int .i64 (.tm n), .vec 3]], .vec true 152 cnt [.ints .i64 no, .fsubs 4 bb lo sl], .fam true 5 .u8 ln dom g] ⟨none, some ((RM.mk cnt no bb sl ln dom g).Inv n ∧ (∀ i, i < cnt → lo i = 0) ∧ n ≤ 65536 ∧ 0 ≤ n ∧ 0 ≤ a ∧ (k = 1 ∨ k = 2 ∨ k = 4) ∧ 0 ≤ v ∧ v ≤ 18446744073709551615), .rel RM 4 (fun x => some (x.Inv n ∧ ∀ b, 0 ≤ b → x.at_ b = wrA n (RM.mk cnt no bb sl ln dom g).at_ a k v b)) (fun x => .val (.one (.int .i64 (.tm (err n a k))))) (fun x => [.mem true [.cells [.int .i64 (.tm n), .vec 5]], .gone, .fam true 5 .u8 x.ln x.dom x.g, .vec true 152 x.cnt [.ints .i64 x.no, .fsubs 4 x.bb (fun _ => 0) x.sl]])⟩ := by
  refine ⟨⟨[⟨RM × Int, fun σ x => addM [.vec true 152 x.1.cnt [.ints .i64 x.1.no, .fsubs 4 x.1.bb (fun _ => 0) x.1.sl]] (setM [(2, .mem true [.cells [.int .i64 (.tm n), .vec 5]]), (3, .gone), (4, .fam true 5 .u8 x.1.ln x.1.dom x.1.g)] (setT [(3, .val (.one (.int .u64 (.tm (v / 256 ^ x.2.toNat))))), (9, .val (.one (.int .i64 (.tm (x.2)))))] σ)), fun _ x => x.1.Inv n ∧ 0 ≤ x.2 ∧ x.2 ≤ k ∧ ∀ b, 0 ≤ b → x.1.at_ b = setF (RM.mk cnt no bb sl ln dom g).at_ a x.2 v b, fun x => (k - x.2).toNat⟩], [], [], [], [], [], []⟩, ?_⟩
  rw [show fnVC Tryd.prog GTab (callOf Tryd.prog GTab [endC, putC]) ⟨[⟨RM × Int, fun σ x => addM [.vec true 152 x.1.cnt [.ints .i64 x.1.no, .fsubs 4 x.1.bb (fun _ => 0) x.1.sl]] (setM [(2, .mem true [.cells [.int .i64 (.tm n), .vec 5]]), (3, .gone), (4, .fam true 5 .u8 x.1.ln x.1.dom x.1.g)] (setT [(3, .val (.one (.int .u64 (.tm (v / 256 ^ x.2.toNat))))), (9, .val (.one (.int .i64 (.tm (x.2)))))] σ)), fun _ x => x.1.Inv n ∧ 0 ≤ x.2 ∧ x.2 ≤ k ∧ ∀ b, 0 ≤ b → x.1.at_ b = setF (RM.mk cnt no bb sl ln dom g).at_ a x.2 v b, fun x => (k - x.2).toNat⟩], [], [], [], [], [], []⟩ Tryd.f62 ((Tryd.f62.body).getD .skip) [.val (.one (.ptr 2 0)), .val (.one (.int .u64 (.tm a))), .val (.one (.int .i64 (.tm k))), .val (.one (.int .u64 (.tm v)))] [.mem true [.cells [.int .i64 (.tm n), .vec 3]], .vec true 152 cnt [.ints .i64 no, .fsubs 4 bb lo sl], .fam true 5 .u8 ln dom g] ⟨none, some ((RM.mk cnt no bb sl ln dom g).Inv n ∧ (∀ i, i < cnt → lo i = 0) ∧ n ≤ 65536 ∧ 0 ≤ n ∧ 0 ≤ a ∧ (k = 1 ∨ k = 2 ∨ k = 4) ∧ 0 ≤ v ∧ v ≤ 18446744073709551615), .rel RM 4 (fun x => some (x.Inv n ∧ ∀ b, 0 ≤ b → x.at_ b = wrA n (RM.mk cnt no bb sl ln dom g).at_ a k v b)) (fun x => .val (.one (.int .i64 (.tm (err n a k))))) (fun x => [.mem true [.cells [.int .i64 (.tm n), .vec 5]], .gone, .fam true 5 .u8 x.ln x.dom x.g, .vec true 152 x.cnt [.ints .i64 x.no, .fsubs 4 x.bb (fun _ => 0) x.sl]])⟩ = ((IntKind.u64.wrap k = (0 : Int) → False) ∧ ((!decide (a.tmod (IntKind.u64.wrap k) = (0 : Int))) = true → ∃ (x : RM), (RM.Inv n x ∧ ∀ (b : Int), (0 : Int) ≤ b → x.at_ b = wrA n (RM.mk cnt no bb sl ln dom g).at_ a k v b) ∧ (2 : Int) = err n a k ∧ n = n ∧ (∀ (b : Nat), x.dom b = true → dom b = true ∧ x.ln b = ln b ∧ ∀ (j : Nat), j < x.ln b → g b j = x.g b j) ∧ cnt = x.cnt ∧ (∀ (i : Nat), i < cnt → no i = x.no i) ∧ ∀ (i : Nat), i < cnt → bb i = x.bb i ∧ lo i = (0 : Nat) ∧ sl i = x.sl i) ∧ ((!decide (a.tmod (IntKind.u64.wrap k) = (0 : Int))) = false → ((0 : Int) ≤ n ∧ n ≤ (65536 : Int)) ∧ ((!decide (a < n * (4096 : Int))) = true → ∃ (x : RM), (RM.Inv n x ∧ ∀ (b : Int), (0 : Int) ≤ b → x.at_ b = wrA n (RM.mk cnt no bb sl ln dom g).at_ a k v b) ∧ (30 : Int) = err n a k ∧ n = n ∧ (∀ (b : Nat), x.dom b = true → dom b = true ∧ x.ln b = ln b ∧ ∀ (j : Nat), j < x.ln b → g b j = x.g b j) ∧ cnt = x.cnt ∧ (∀ (i : Nat), i < cnt → no i = x.no i) ∧ ∀ (i : Nat), i < cnt → bb i = x.bb i ∧ lo i = (0 : Nat) ∧ sl i = x.sl i) ∧ ((!decide (a < n * (4096 : Int))) = false → (∃ (x : RM × Int), (RM.Inv n x.fst ∧ (0 : Int) ≤ x.snd ∧ x.snd ≤ k ∧ ∀ (b : Int), (0 : Int) ≤ b → x.fst.at_ b = setF (RM.mk cnt no bb sl ln dom g).at_ a x.snd v b) ∧ (a = a ∧ k = k ∧ v = v / (256 : Int) ^ x.snd.toNat ∧ (0 : Int) = x.snd ∧ a = a ∧ k = k ∧ IntKind.u64.wrap k = IntKind.u64.wrap k ∧ a.tmod (IntKind.u64.wrap k) = a.tmod (IntKind.u64.wrap k) ∧ (!decide (a.tmod (IntKind.u64.wrap k) = (0 : Int))) = !decide (a.tmod (IntKind.u64.wrap k) = (0 : Int)) ∧ a = a ∧ n * (4096 : Int) = n * (4096 : Int) ∧ (!decide (a < n * (4096 : Int))) = !decide (a < n * (4096 : Int))) ∧ n = n ∧ (∀ (b : Nat), x.fst.dom b = true → dom b = true ∧ x.fst.ln b = ln b ∧ ∀ (j : Nat), j < x.fst.ln b → g b j = x.fst.g b j) ∧ cnt = x.fst.cnt ∧ (∀ (i : Nat), i < cnt → no i = x.fst.no i) ∧ ∀ (i : Nat), i < cnt → bb i = x.fst.bb i ∧ lo i = (0 : Nat) ∧ sl i = x.fst.sl i) ∧ ∀ (x : RM × Int), (RM.Inv n x.fst ∧ (0 : Int) ≤ x.snd ∧ x.snd ≤ k ∧ ∀ (b : Int), (0 : Int) ≤ b → x.fst.at_ b = setF (RM.mk cnt no bb sl ln dom g).at_ a x.snd v b) → (decide (x.snd < k) = true → (RM.Inv n (RM.mk x.fst.cnt x.fst.no x.fst.bb x.fst.sl x.fst.ln x.fst.dom x.fst.g) ∧ (∀ (i : Nat), i < x.fst.cnt → (0 : Nat) = (0 : Nat)) ∧ n ≤ (65536 : Int) ∧ (0 : Int) ≤ IntKind.u64.wrap (a + IntKind.u64.wrap x.snd) ∧ IntKind.u64.wrap (a + IntKind.u64.wrap x.snd) < n * (4096 : Int) ∧ (0 : Int) ≤ IntKind.u8.wrap (v / (256 : Int) ^ x.snd.toNat) ∧ IntKind.u8.wrap (v / (256 : Int) ^ x.snd.toNat) < (256 : Int)) ∧ ∀ (x_1 : RM), (RM.Inv n x_1 ∧ ∀ (b : Int), (0 : Int) ≤ b → x_1.at_ b = if b = IntKind.u64.wrap (a + IntKind.u64.wrap x.snd) then IntKind.u8.wrap (v / (256 : Int) ^ x.snd.toNat) else (RM.mk x.fst.cnt x.fst.no x.fst.bb x.fst.sl x.fst.ln x.fst.dom x.fst.g).at_ b) → ∃ (y : RM × Int), (RM.Inv n y.fst ∧ (0 : Int) ≤ y.snd ∧ y.snd ≤ k ∧ ∀ (b : Int), (0 : Int) ≤ b → y.fst.at_ b = setF (RM.mk cnt no bb sl ln dom g).at_ a y.snd v b) ∧ (k - y.snd).toNat < (k - x.snd).toNat ∧ (a = a ∧ k = k ∧ IntKind.u64.wrap ((v / (256 : Int) ^ x.snd.toNat).tdiv (256 : Int)) = v / (256 : Int) ^ y.snd.toNat ∧ IntKind.i64.wrap (x.snd + (1 : Int)) = y.snd ∧ a = a ∧ k = k ∧ IntKind.u64.wrap k = IntKind.u64.wrap k ∧ a.tmod (IntKind.u64.wrap k) = a.tmod (IntKind.u64.wrap k) ∧ (!decide (a.tmod (IntKind.u64.wrap k) = (0 : Int))) = !decide (a.tmod (IntKind.u64.wrap k) = (0 : Int)) ∧ a = a ∧ n * (4096 : Int) = n * (4096 : Int) ∧ (!decide (a < n * (4096 : Int))) = !decide (a < n * (4096 : Int))) ∧ n = n ∧ (∀ (b : Nat), y.fst.dom b = true → x_1.dom b = true ∧ y.fst.ln b = x_1.ln b ∧ ∀ (j : Nat), j < y.fst.ln b → x_1.g b j = y.fst.g b j) ∧ x_1.cnt = y.fst.cnt ∧ (∀ (i : Nat), i < x_1.cnt → x_1.no i = y.fst.no i) ∧ ∀ (i : Nat), i < x_1.cnt → x_1.bb i = y.fst.bb i ∧ (0 : Nat) = (0 : Nat) ∧ x_1.sl i = y.fst.sl i) ∧ (decide (x.snd < k) = false → ∃ (x_1 : RM), (RM.Inv n x_1 ∧ ∀ (b : Int), (0 : Int) ≤ b → x_1.at_ b = wrA n (RM.mk cnt no bb sl ln dom g).at_ a k v b) ∧ (0 : Int) = err n a k ∧ n = n ∧ (∀ (b : Nat), x_1.dom b = true → x.fst.dom b = true ∧ x_1.ln b = x.fst.ln b ∧ ∀ (j : Nat), j < x_1.ln b → x.fst.g b j = x_1.g b j) ∧ x.fst.cnt = x_1.cnt ∧ (∀ (i : Nat), i < x.fst.cnt → x.fst.no i = x_1.no i) ∧ ∀ (i : Nat), i < x.fst.cnt → x.fst.bb i = x_1.bb i ∧ (0 : Nat) = (0 : Nat) ∧ x.fst.sl i = x_1.sl i)))) from by kernel_rfl]
  obtain ⟨hI, hl, hn2, hn0, h0, hk, hv0, hv1⟩ := hn
  have hk1 : 1 ≤ k ∧ k ≤ 4 := by omega
  have hfit : a % k = 0 → a % 4096 + k ≤ 4096 := by rcases hk with rfl | rfl | rfl <;> omega
  simp only [wrap_u64 (x := k) (by omega) (by omega), tmod_pos (b := k) h0, implies_true, and_true, true_and, imp_self]
  refine ⟨by omega, fun h => ?_, fun h => ⟨⟨hn0, hn2⟩, fun h2 => ?_, fun h2 => ?_⟩⟩
  · have h : ¬ a % k = 0 := by simpa using h
    have e : err n a k = 2 := by simp [err, h]
    exact ⟨RM.mk cnt no bb sl ln dom g, ⟨hI, fun b _ => by rw [wrA, if_neg (by rw [e]; decide)]⟩, by rw [e], by simp, rfl, fun _ _ => rfl, fun i hi => ⟨rfl, hl i hi, rfl⟩⟩
  · have h : a % k = 0 := by simpa using h
    have h2 : n * 4096 ≤ a := by simpa using h2
    have e : err n a k = 30 := by
      unfold err; rw [if_neg (by simp [h]), if_pos (by omega)]
    exact ⟨RM.mk cnt no bb sl ln dom g, ⟨hI, fun b _ => by rw [wrA, if_neg (by rw [e]; decide)]⟩, by rw [e], by simp, rfl, fun _ _ => rfl, fun i hi => ⟨rfl, hl i hi, rfl⟩⟩
  · have h : a % k = 0 := by simpa using h
    have h2 : a < n * 4096 := by simpa using h2
    have e : err n a k = 0 := by
      unfold err; rw [if_neg (by simp [h]), if_neg (by omega)]
    have hf := hfit h
    refine ⟨⟨(RM.mk cnt no bb sl ln dom g, 0), ⟨hI, Int.le_refl _, by omega, fun b _ => (setF_zero _ _ _ _).symm⟩, ⟨by simp, rfl⟩, by simp, rfl, fun _ _ => rfl, fun i hi => ⟨rfl, hl i hi, rfl⟩⟩, fun x hx => ⟨fun h3 => ?_, fun h3 => ?_⟩⟩
    · obtain ⟨x1, x2, x3, x4⟩ := hx
      have h3 : x.2 < k := by simpa using h3
      have e2 := wrap_u64 (x := x.2) (by omega) (by omega)
      have e3 := wrap_u64 (x := a + x.2) (by omega) (by omega)
      have hq0 : 0 ≤ v / 256 ^ x.2.toNat := Int.ediv_nonneg hv0 (Int.pow_nonneg (by decide))
      have hq1 : v / 256 ^ x.2.toNat ≤ v := Int.ediv_le_self _ hv0
      rw [e2, e3, wrap_u8, tdiv_pos hq0, wrap_u64 (x := v / 256 ^ x.2.toNat / 256) (by omega) (by omega)]
      refine ⟨⟨x1, hn2, by omega, by omega, Int.emod_nonneg _ (by decide), Int.emod_lt_of_pos _ (by decide)⟩, fun y hy => ⟨(y, x.2 + 1), ⟨hy.1, by omega, by omega, fun b hb => ?_⟩, by omega, ⟨?_, wrap_i64 (by omega) (by omega)⟩, fun _ h => ⟨h, rfl, fun _ _ => rfl⟩, rfl, fun _ _ => rfl, fun _ _ => ⟨rfl, rfl⟩⟩⟩
      · rw [hy.2 b hb, setF_step _ _ _ _ _ x2, ← x4 b hb]
      · rw [show (x.2 + 1).toNat = x.2.toNat + 1 by omega]; exact div_pow v x.2.toNat
    · obtain ⟨x1, x2, x3, x4⟩ := hx
      have h3 : ¬ x.2 < k := by simpa using h3
      have : x.2 = k := by omega
      rw [this] at x4
      exact ⟨x.1, ⟨x1, fun b hb => by rw [x4 b hb, wrA, if_pos e]⟩, e.symm, fun _ h => ⟨h, rfl, fun _ _ => rfl⟩, rfl, fun _ _ => rfl, fun _ _ => ⟨rfl, rfl⟩⟩
theorem SetC_ch (n : Int) (cnt : Nat) (no : Nat → Int) (bb lo sl : Nat → Nat) (ln : Nat → Nat) (dom : Nat → Bool) (g : Nat → Nat → Int) (a k v : Int) : ∃ r ∈ ([⟨none, some ((RM.mk cnt no bb sl ln dom g).Inv n ∧ (∀ i, i < cnt → lo i = 0) ∧ n ≤ 65536 ∧ 0 ≤ n ∧ 0 ≤ a ∧ (k = 1 ∨ k = 2 ∨ k = 4) ∧ 0 ≤ v ∧ v ≤ 18446744073709551615), .rel RM 4 (fun x => some (x.Inv n ∧ ∀ b, 0 ≤ b → x.at_ b = wrA n (RM.mk cnt no bb sl ln dom g).at_ a k v b)) (fun x => .val (.one (.int .i64 (.tm (err n a k))))) (fun x => [.mem true [.cells [.int .i64 (.tm n), .vec 5]], .gone, .fam true 5 .u8 x.ln x.dom x.g, .vec true 152 x.cnt [.ints .i64 x.no, .fsubs 4 x.bb (fun _ => 0) x.sl]])⟩] : List Res), holdsP r.g ∧ (holdsP r.need → r.r.shaped [.mem true [.cells [.int .i64 (.tm n), .vec 3]], .vec true 152 cnt [.ints .i64 no, .fsubs 4 bb lo sl], .fam true 5 .u8 ln dom g] ∧ ∃ anns, fnVC Tryd.prog GTab (callOf Tryd.prog GTab [endC, putC]) anns Tryd.f62 ((Tryd.f62.body).getD .skip) [.val (.one (.ptr 2 0)), .val (.one (.int .u64 (.tm a))), .val (.one (.int .i64 (.tm k))), .val (.one (.int .u64 (.tm v)))] [.mem true [.cells [.int .i64 (.tm n), .vec 3]], .vec true 152 cnt [.ints .i64 no, .fsubs 4 bb lo sl], .fam true 5 .u8 ln dom g] r) := by
  exact ⟨_, List.mem_cons_self, trivial, fun hn => ⟨fun x _ => rfl, SetC_p0 n cnt no bb lo sl ln dom g a k v hn⟩⟩
theorem SetC_ok : SetC.ok Tryd.prog GTab := by
  refine con_ok (cs := [endC, putC]) (body := (Tryd.f62.body).getD .skip) ?_ Tryd.func62 rfl ?_
  · intro c h
    simp only [List.mem_cons, List.not_mem_nil, or_false] at h
    rcases h with rfl | rfl
    · exact endC_ok
    · exact putC_ok
  · intro args h l hl
    unfold SetC at hl
    dsimp only at hl
    split at hl
    · cases hl
      exact SetC_ch _ _ _ _ _ _ _ _ _ _ _ _
    · cases hl
noncomputable def rwordC : Con := ⟨80, fun args h => match args, h with
  | [.val (.one (.ptr 2 0)), .val (.one (.int .u64 (.tm a)))], [.mem false [.cells [.int .i64 (.tm n), .vec 3]], .vec false 152 cnt [.ints .i64 no, .fsubs 4 bb lo sl], .fam false 5 .u8 ln dom g] => some [⟨none, some ((RM.mk cnt no bb sl ln dom g).Inv n ∧ (∀ i, i < cnt → lo i = 0) ∧ n ≤ 65536 ∧ 0 ≤ n ∧ 0 ≤ a), .det (.tup [.one (.int .u32 (.tm (if err n a 4 = 0 then le (RM.mk cnt no bb sl ln dom g).at_ a 4 else 0))), .one (.int .i64 (.tm (err n a 4)))]) ([.mem false [.cells [.int .i64 (.tm n), .vec 3]], .vec false 152 cnt [.ints .i64 no, .fsubs 4 bb lo sl], .fam false 5 .u8 ln dom g])⟩]
  | _, _ => none, true⟩
theorem rwordC_p0 (n : Int) (cnt : Nat) (no : Nat → Int) (bb lo sl : Nat → Nat) (ln : Nat → Nat) (dom : Nat → Bool) (g : Nat → Nat → Int) (a : Int) (hn : (RM.mk cnt no bb sl ln dom g).Inv n ∧ (∀ i, i < cnt → lo i = 0) ∧ n ≤ 65536 ∧ 0 ≤ n ∧ 0 ≤ a) : ∃ anns, fnVC Tryd.prog GTab (callOf Tryd.prog GTab [GetC]) anns Tryd.f80 ((Tryd.f80.body).getD .skip) [.val (.one (.ptr 2 0)), .val (.one (.int .u64 (.tm a)))] [.mem false [.cells [.int .i64 (.tm n), .vec 3]], .vec false 152 cnt [.ints .i64 no, .fsubs 4 bb lo sl], .fam false 5 .u8 ln dom g] ⟨none, some ((RM.mk cnt no bb sl ln dom g).Inv n ∧ (∀ i, i < cnt → lo i = 0) ∧ n ≤ 65536 ∧ 0 ≤ n ∧ 0 ≤ a), .det (.tup [.one (.int .u32 (.tm (if err n a 4 = 0 then le (RM.mk cnt no bb sl ln dom g).at_ a 4 else 0))), .one (.int .i64 (.tm (err n a 4)))]) ([.mem false [.cells [.int .i64 (.tm n), .vec 3]], .vec false 152 cnt [.ints .i64 no, .fsubs 4 bb lo sl], .fam false 5 .u8 ln dom g])⟩ := by
  refine ⟨⟨[], [], [], [], [], [], []⟩, ?_⟩
  rw [show fnVC Tryd.prog GTab (callOf Tryd.prog GTab [GetC]) ⟨[], [], [], [], [], [], []⟩ Tryd.f80 ((Tryd.f80.body).getD .skip) [.val (.one (.ptr 2 0)), .val (.one (.int .u64 (.tm a)))] [.mem false [.cells [.int .i64 (.tm n), .vec 3]], .vec false 152 cnt [.ints .i64 no, .fsubs 4 bb lo sl], .fam false 5 .u8 ln dom g] ⟨none, some ((RM.mk cnt no bb sl ln dom g).Inv n ∧ (∀ i, i < cnt → lo i = 0) ∧ n ≤ 65536 ∧ 0 ≤ n ∧ 0 ≤ a), .det (.tup [.one (.int .u32 (.tm (if err n a 4 = 0 then le (RM.mk cnt no bb sl ln dom g).at_ a 4 else 0))), .one (.int .i64 (.tm (err n a 4)))]) ([.mem false [.cells [.int .i64 (.tm n), .vec 3]], .vec false 152 cnt [.ints .i64 no, .fsubs 4 bb lo sl], .fam false 5 .u8 ln dom g])⟩ = ((RM.Inv n (RM.mk cnt no bb sl ln dom g) ∧ (∀ (i : Nat), i < cnt → lo i = (0 : Nat)) ∧ n ≤ (65536 : Int) ∧ (0 : Int) ≤ n ∧ (0 : Int) ≤ a ∧ ((4 : Int) = (1 : Int) ∨ (4 : Int) = (2 : Int) ∨ (4 : Int) = (4 : Int))) ∧ ((IntKind.u32.wrap (if err n a (4 : Int) = (0 : Int) then le (RM.mk cnt no bb sl ln dom g).at_ a (4 : Nat) else (0 : Int)) = if err n a (4 : Int) = (0 : Int) then le (RM.mk cnt no bb sl ln dom g).at_ a (4 : Nat) else (0 : Int)) ∧ err n a (4 : Int) = err n a (4 : Int)) ∧ n = n ∧ (cnt = cnt ∧ (∀ (i : Nat), i < cnt → no i = no i) ∧ ∀ (i : Nat), i < cnt → bb i = bb i ∧ lo i = lo i ∧ sl i = sl i) ∧ ∀ (b : Nat), dom b = true → dom b = true ∧ ln b = ln b ∧ ∀ (j : Nat), j < ln b → g b j = g b j) from by kernel_rfl]
  obtain ⟨hI, hl, hn2, hn0, h0⟩ := hn
  simp only [implies_true, and_true, true_and, imp_self]
  refine ⟨⟨hI, hl, hn2, hn0, h0, .inr (.inr trivial)⟩, ?_⟩
  by_cases e : err n a 4 = 0
  · rw [if_pos e]
    have := le_bd hI.bd 4 a
    exact wrap_u32 this.1 (by simp at this; omega)
  · rw [if_neg e]; rfl
theorem rwordC_ch (n : Int) (cnt : Nat) (no : Nat → Int) (bb lo sl : Nat → Nat) (ln : Nat → Nat) (dom : Nat → Bool) (g : Nat → Nat → Int) (a : Int) : ∃ r ∈ ([⟨none, some ((RM.mk cnt no bb sl ln dom g).Inv n ∧ (∀ i, i < cnt → lo i = 0) ∧ n ≤ 65536 ∧ 0 ≤ n ∧ 0 ≤ a), .det (.tup [.one (.int .u32 (.tm (if err n a 4 = 0 then le (RM.mk cnt no bb sl ln dom g).at_ a 4 else 0))), .one (.int .i64 (.tm (err n a 4)))]) ([.mem false [.cells [.int .i64 (.tm n), .vec 3]], .vec false 152 cnt [.ints .i64 no, .fsubs 4 bb lo sl], .fam false 5 .u8 ln dom g])⟩] : List Res), holdsP r.g ∧ (holdsP r.need → r.r.shaped [.mem false [.cells [.int .i64 (.tm n), .vec 3]], .vec false 152 cnt [.ints .i64 no, .fsubs 4 bb lo sl], .fam false 5 .u8 ln dom g] ∧ ∃ anns, fnVC Tryd.prog GTab (callOf Tryd.prog GTab [GetC]) anns Tryd.f80 ((Tryd.f80.body).getD .skip) [.val (.one (.ptr 2 0)), .val (.one (.int .u64 (.tm a)))] [.mem false [.cells [.int .i64 (.tm n), .vec 3]], .vec false 152 cnt [.ints .i64 no, .fsubs 4 bb lo sl], .fam false 5 .u8 ln dom g] r) := by
  exact ⟨_, List.mem_cons_self, trivial, fun hn => ⟨trivial, rwordC_p0 n cnt no bb lo sl ln dom g a hn⟩⟩
theorem rwordC_ok : rwordC.ok Tryd.prog GTab := by
  refine con_ok (cs := [GetC]) (body := (Tryd.f80.body).getD .skip) ?_ Tryd.func80 rfl ?_
  · intro c h
    simp only [List.mem_cons, List.not_mem_nil, or_false] at h
    rcases h with rfl
    · exact GetC_ok
  · intro args h l hl
    unfold rwordC at hl
    dsimp only at hl
    split at hl
    · cases hl
      exact rwordC_ch _ _ _ _ _ _ _ _ _ _
    · cases hl
noncomputable def rsetWordC : Con := ⟨36, fun args h => match args, h with
  | [.val (.one (.ptr 2 0)), .val (.one (.int .u64 (.tm a))), .val (.one (.int .u32 (.tm v)))], [.mem true [.cells [.int .i64 (.tm n), .vec 3]], .vec true 152 cnt [.ints .i64 no, .fsubs 4 bb lo sl], .fam true 5 .u8 ln dom g] => some [⟨none, some ((RM.mk cnt no bb sl ln dom g).Inv n ∧ (∀ i, i < cnt → lo i = 0) ∧ n ≤ 65536 ∧ 0 ≤ n ∧ 0 ≤ a ∧ 0 ≤ v ∧ v ≤ 4294967295), .rel RM 4 (fun x => some (x.Inv n ∧ ∀ b, 0 ≤ b → x.at_ b = wrA n (RM.mk cnt no bb sl ln dom g).at_ a 4 v b)) (fun x => .val (.one (.int .i64 (.tm (err n a 4))))) (fun x => [.mem true [.cells [.int .i64 (.tm n), .vec 5]], .gone, .fam true 5 .u8 x.ln x.dom x.g, .vec true 152 x.cnt [.ints .i64 x.no, .fsubs 4 x.bb (fun _ => 0) x.sl]])⟩]
  | _, _ => none, false⟩
theorem rsetWordC_p0 (n : Int) (cnt : Nat) (no : Nat → Int) (bb lo sl : Nat → Nat) (ln : Nat → Nat) (dom : Nat → Bool) (g : Nat → Nat → Int) (a v : Int) (hn : (RM.mk cnt no bb sl ln dom g).Inv n ∧ (∀ i, i < cnt → lo i = 0) ∧ n ≤ 65536 ∧ 0 ≤ n ∧ 0 ≤ a ∧ 0 ≤ v ∧ v ≤ 4294967295) : ∃ anns, fnVC Tryd.prog GTab (callOf Tryd.prog GTab [SetC]) anns Tryd.f36 ((Tryd.f36.body).getD .skip) [.val (.one (.ptr 2 0)), .val (.one (.int .u64 (.tm a))), .val (.one (.int .u32 (.tm v)))] [.mem true [.cells [.int .i64 (.tm n), .vec 3]], .vec true 152 cnt [.ints .i64 no, .fsubs 4 bb lo sl], .fam true 5 .u8 ln dom g] ⟨none, some ((RM.mk cnt no bb sl ln dom g).Inv n ∧ (∀ i, i < cnt → lo i = 0) ∧ n ≤ 65536 ∧ 0 ≤ n ∧ 0 ≤ a ∧ 0 ≤ v ∧ v ≤ 4294967295), .rel RM 4 (fun x => some (x.Inv n ∧ ∀ b, 0 ≤ b → x.at_ b = wrA n (RM.mk cnt no bb sl ln dom g).at_ a 4 v b)) (fun x => .val (.one (.int .i64 (.tm (err n a 4))))) (fun x => [.mem true [.cells [.int .i64 (.tm n), .vec 5]], .gone, .fam true 5 .u8 x.ln x.dom x.g, .vec true 152 x.cnt [.ints .i64 x.no, .fsubs 4 x.bb (fun _ => 0) x.sl]])⟩ := by
  refine ⟨⟨[], [], [], [], [], [], []⟩, ?_⟩
  rw [show fnVC Tryd.prog GTab (callOf Tryd.prog GTab [SetC]) ⟨[], [], [], [], [], [], []⟩ Tryd.f36 ((Tryd.f36.body).getD .skip) [.val (.one (.ptr 2 0)), .val (.one (.int .u64 (.tm a))), .val (.one (.int .u32 (.tm v)))] [.mem true [.cells [.int .i64 (.tm n), .vec 3]], .vec true 152 cnt [.ints .i64 no, .fsubs 4 bb lo sl], .fam true 5 .u8 ln dom g] ⟨none, some ((RM.mk cnt no bb sl ln dom g).Inv n ∧ (∀ i, i < cnt → lo i = 0) ∧ n ≤ 65536 ∧ 0 ≤ n ∧ 0 ≤ a ∧ 0 ≤ v ∧ v ≤ 4294967295), .rel RM 4 (fun x => some (x.Inv n ∧ ∀ b, 0 ≤ b → x.at_ b = wrA n (RM.mk cnt no bb sl ln dom g).at_ a 4 v b)) (fun x => .val (.one (.int .i64 (.tm (err n a 4))))) (fun x => [.mem true [.cells [.int .i64 (.tm n), .vec 5]], .gone, .fam true 5 .u8 x.ln x.dom x.g, .vec true 152 x.cnt [.ints .i64 x.no, .fsubs 4 x.bb (fun _ => 0) x.sl]])⟩ = ((RM.Inv n (RM.mk cnt no bb sl ln dom g) ∧ (∀ (i : Nat), i < cnt → lo i = (0 : Nat)) ∧ n ≤ (65536 : Int) ∧ (0 : Int) ≤ n ∧ (0 : Int) ≤ a ∧ ((4 : Int) = (1 : Int) ∨ (4 : Int) = (2 : Int) ∨ (4 : Int) = (4 : Int)) ∧ (0 : Int) ≤ IntKind.u64.wrap v ∧ IntKind.u64.wrap v ≤ (18446744073709551615 : Int)) ∧ ∀ (x : RM), (RM.Inv n x ∧ ∀ (b : Int), (0 : Int) ≤ b → x.at_ b = wrA n (RM.mk cnt no bb sl ln dom g).at_ a (4 : Int) (IntKind.u64.wrap v) b) → ∃ (x_1 : RM), (RM.Inv n x_1 ∧ ∀ (b : Int), (0 : Int) ≤ b → x_1.at_ b = wrA n (RM.mk cnt no bb sl ln dom g).at_ a (4 : Int) v b) ∧ err n a (4 : Int) = err n a (4 : Int) ∧ n = n ∧ (∀ (b : Nat), x_1.dom b = true → x.dom b = true ∧ x_1.ln b = x.ln b ∧ ∀ (j : Nat), j < x_1.ln b → x.g b j = x_1.g b j) ∧ x.cnt = x_1.cnt ∧ (∀ (i : Nat), i < x.cnt → x.no i = x_1.no i) ∧ ∀ (i : Nat), i < x.cnt → x.bb i = x_1.bb i ∧ (0 : Nat) = (0 : Nat) ∧ x.sl i = x_1.sl i) from by kernel_rfl]
  obtain ⟨hI, hl, hn2, hn0, h0, hv0, hv1⟩ := hn
  rw [wrap_u64 (x := v) (by omega) (by omega)]
  exact ⟨⟨hI, hl, hn2, hn0, h0, .inr (.inr rfl), by omega, by omega⟩, fun x hx => ⟨x, hx, rfl, rfl, fun _ h => ⟨h, rfl, fun _ _ => rfl⟩, rfl, fun _ _ => rfl, fun _ _ => ⟨rfl, rfl, rfl⟩⟩⟩
theorem rsetWordC_ch (n : Int) (cnt : Nat) (no : Nat → Int) (bb lo sl : Nat → Nat) (ln : Nat → Nat) (dom : Nat → Bool) (g : Nat → Nat → Int) (a v : Int) : ∃ r ∈ ([⟨none, some ((RM.mk cnt no bb sl ln dom g).Inv n ∧ (∀ i, i < cnt → lo i = 0) ∧ n ≤ 65536 ∧ 0 ≤ n ∧ 0 ≤ a ∧ 0 ≤ v ∧ v ≤ 4294967295), .rel RM 4 (fun x => some (x.Inv n ∧ ∀ b, 0 ≤ b → x.at_ b = wrA n (RM.mk cnt no bb sl ln dom g).at_ a 4 v b)) (fun x => .val (.one (.int .i64 (.tm (err n a 4))))) (fun x => [.mem true [.cells [.int .i64 (.tm n), .vec 5]], .gone, .fam true 5 .u8 x.ln x.dom x.g, .vec true 152 x.cnt [.ints .i64 x.no, .fsubs 4 x.bb (fun _ => 0) x.sl]])⟩] : List Res), holdsP r.g ∧ (holdsP r.need → r.r.shaped [.mem true [.cells [.int .i64 (.tm n), .vec 3]], .vec true 152 cnt [.ints .i64 no, .fsubs 4 bb lo sl], .fam true 5 .u8 ln dom g] ∧ ∃ anns, fnVC Tryd.prog GTab (callOf Tryd.prog GTab [SetC]) anns Tryd.f36 ((Tryd.f36.body).getD .skip) [.val (.one (.ptr 2 0)), .val (.one (.int .u64 (.tm a))), .val (.one (.int .u32 (.tm v)))] [.mem true [.cells [.int .i64 (.tm n), .vec 3]], .vec true 152 cnt [.ints .i64 no, .fsubs 4 bb lo sl], .fam true 5 .u8 ln dom g] r) := by
  exact ⟨_, List.mem_cons_self, trivial, fun hn => ⟨fun x _ => rfl, rsetWordC_p0 n cnt no bb lo sl ln dom g a v hn⟩⟩
theorem rsetWordC_ok : rsetWordC.ok Tryd.prog GTab := by
  refine con_ok (cs := [SetC]) (body := (Tryd.f36.body).getD .skip) ?_ Tryd.func36 rfl ?_
  · intro c h
    simp only [List.mem_cons, List.not_mem_nil, or_false] at h
    rcases h with rfl
    · exact SetC_ok
  · intro args h l hl
    unfold rsetWordC at hl
    dsimp only at hl
    split at hl
    · cases hl
      exact rsetWordC_ch _ _ _ _ _ _ _ _ _ _ _
    · cases hl
end Go.Proofs.YtpdijogpbnaplaaDoor.con
