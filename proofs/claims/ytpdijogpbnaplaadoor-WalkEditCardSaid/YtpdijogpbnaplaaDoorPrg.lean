/- The program's memory: its functions as contracts: what each answers, and how the memory stands behind it. -/
import Derived.Test.YtpdijogpbnaplaaDoorHzThree
import Derived.Test.YtpdijogpbnaplaaDoorProg
import Derived.KernelRfl
namespace Go.Proofs.YtpdijogpbnaplaaDoor.con
open Go Go.Proofs.YtpdijogpbnaplaaDoorHz
set_option maxRecDepth 100000
set_option maxHeartbeats 4000000
noncomputable def GTab : List (Nat × List L) := [(0, [.int .u64 (.lit 0), .int .u64 (.lit 12), .int .u64 (.lit 16), .int .u64 (.lit 20), .int .u64 (.lit 24)]), (1, [.int .i64 (.lit 0), .int .i64 (.lit 5), .int .i64 (.lit 4), .int .i64 (.lit 2), .int .i64 (.lit 3)])]
structure PM where
  has : Int → Bool
  bb : Int → Nat
  ln : Nat → Nat
  dom : Nat → Bool
  g : Nat → Nat → Int
structure PM.Inv (n : Int) (m : PM) : Prop where
  ln : ∀ b, m.ln b = 4096
  key : ∀ k, m.has k = true → 0 ≤ k ∧ k < n ∧ m.dom (m.bb k) = true
  inj : ∀ k k', m.has k = true → m.has k' = true → m.bb k = m.bb k' → k = k'
  byte : ∀ b j, m.dom b = true → j < 4096 → 0 ≤ m.g b j ∧ m.g b j < 256
/-- the byte at a place -/
def PM.at_ (m : PM) (a : Int) : Int := if m.has (a / 4096) = true then m.g (m.bb (a / 4096)) (a % 4096).toNat else 0
/-- so many bytes of a number written from a place on, the lowest first -/
def setF (f : Int → Int) (a k v : Int) : Int → Int := fun b => if a ≤ b ∧ b < a + k then v / 256 ^ (b - a).toNat % 256 else f b
/-- so many bytes from a place on, the lowest first -/
def le (f : Int → Int) (a : Int) : Nat → Int
  | 0 => 0
  | c + 1 => f a + 256 * le f (a + 1) c
theorem wrap_i64 {x : Int} (h1 : -9223372036854775808 ≤ x) (h2 : x ≤ 9223372036854775807) : IntKind.i64.wrap x = x := by
  simp only [IntKind.wrap, IntKind.bits, IntKind.signed]; simp; omega
theorem wrap_u64 {x : Int} (h1 : 0 ≤ x) (h2 : x ≤ 18446744073709551615) : IntKind.u64.wrap x = x := by
  simp only [IntKind.wrap, IntKind.bits, IntKind.signed]; simp; omega
theorem wrap_u32 {x : Int} (h1 : 0 ≤ x) (h2 : x ≤ 4294967295) : IntKind.u32.wrap x = x := by
  simp only [IntKind.wrap, IntKind.bits, IntKind.signed]; simp; omega
theorem wrap_u8 (x : Int) : IntKind.u8.wrap x = x % 256 := by
  simp only [IntKind.wrap, IntKind.bits, IntKind.signed]; simp
theorem tdiv_pos {a b : Int} (h : 0 ≤ a) : a.tdiv b = a / b := Int.tdiv_eq_ediv_of_nonneg h
theorem tmod_pos {a b : Int} (h : 0 ≤ a) : a.tmod b = a % b := Int.tmod_eq_emod_of_nonneg h
theorem frame_of {a : Int} (h0 : 0 ≤ a) (h1 : a ≤ 9223372036854775807) : IntKind.i64.wrap (IntKind.u64.wrap (a.tdiv 4096)) = a / 4096 := by
  rw [tdiv_pos h0, wrap_u64 (by omega) (by omega), wrap_i64 (by omega) (by omega)]
theorem own_new {n : Int} {m : PM} {a : Int} (hI : m.Inv n) (h0 : 0 ≤ a) (h1 : a < n * 4096) (hno : m.has (a / 4096) = false) {b : Nat} (hb : m.dom b = false) :
    (PM.mk (putK m.has (a / 4096) true) (putK m.bb (a / 4096) b) m.ln (putD m.dom b) (putBlk m.g b fun _ => 0)).Inv n ∧ ∀ c, 0 ≤ c → (PM.mk (putK m.has (a / 4096) true) (putK m.bb (a / 4096) b) m.ln (putD m.dom b) (putBlk m.g b fun _ => 0)).at_ c = m.at_ c := by
  have hne : ∀ k, m.has k = true → m.bb k ≠ b := fun k hk e => by
    have := (hI.key k hk).2.2
    rw [e, hb] at this; cases this
  refine ⟨⟨hI.ln, fun k hk => ?_, fun k k' hk hk' e => ?_, fun c j hc hj => ?_⟩, fun c hc => ?_⟩
  · simp only [putK] at hk ⊢
    by_cases hka : k = a / 4096
    · subst hka; simp [putD]; omega
    · rw [if_neg hka] at hk
      obtain ⟨k1, k2, k3⟩ := hI.key k hk
      simp only [if_neg hka]
      refine ⟨k1, k2, ?_⟩
      simp only [putD]
      split
      · rfl
      · exact k3
  · simp only [putK] at hk hk' e
    by_cases h1 : k = a / 4096 <;> by_cases h2 : k' = a / 4096
    · rw [h1, h2]
    · rw [if_pos h1, if_neg h2] at e
      rw [if_neg h2] at hk'
      exact absurd e.symm (hne k' hk')
    · rw [if_neg h1, if_pos h2] at e
      rw [if_neg h1] at hk
      exact absurd e (hne k hk)
    · rw [if_neg h1, if_neg h2] at e
      rw [if_neg h1] at hk
      rw [if_neg h2] at hk'
      exact hI.inj k k' hk hk' e
  · simp only [putD] at hc
    simp only [putBlk]
    split
    · omega
    · rename_i hcb
      rw [if_neg hcb] at hc
      exact hI.byte c j hc hj
  · simp only [PM.at_, putK, putBlk]
    by_cases h1 : c / 4096 = a / 4096
    · simp [h1, hno]
    · simp only [if_neg h1]
      split
      · rename_i hk
        rw [if_neg (hne _ hk)]
      · rfl
theorem le_bd {f : Int → Int} (hf : ∀ a, 0 ≤ f a ∧ f a < 256) : ∀ (c : Nat) (a : Int), 0 ≤ le f a c ∧ le f a c < 256 ^ c
  | 0, a => by simp [le]
  | c + 1, a => by
    have h1 := le_bd hf c (a + 1)
    have h2 := hf a
    simp only [le, Int.pow_succ]
    constructor
    · omega
    · omega
theorem le_ext {f g : Int → Int} : ∀ (c : Nat) (a : Int), (∀ b, a ≤ b → b < a + c → f b = g b) → le f a c = le g a c
  | 0, a, _ => rfl
  | c + 1, a, h => by
    rw [le, le, h a (by omega) (by omega), le_ext c (a + 1) (fun b h1 h2 => h b (by omega) (by omega))]
theorem le_zero {f : Int → Int} : ∀ (c : Nat) (a : Int), (∀ b, a ≤ b → b < a + c → f b = 0) → le f a c = 0
  | 0, a, _ => rfl
  | c + 1, a, h => by rw [le, h a (by omega) (by omega), le_zero c (a + 1) (fun b h1 h2 => h b (by omega) (by omega))]; rfl
theorem le_step (f : Int → Int) {a x k : Int} (h0 : 0 < x) (h : x ≤ k) : le f (a + (x - 1)) (k - (x - 1)).toNat = f (a + (x - 1)) + 256 * le f (a + x) (k - x).toNat := by
  rw [show (k - (x - 1)).toNat = (k - x).toNat + 1 by omega, le, show a + (x - 1) + 1 = a + x by omega]
theorem or_shift {x y : Int} (hx0 : 0 ≤ x) (hx : x < 16777216) (h0 : 0 ≤ y) (h1 : y < 256) : bits .or .u32 (IntKind.u32.wrap (x * 256)) (IntKind.u32.wrap y) = y + 256 * x := by
  rw [wrap_u32 (x := x * 256) (by omega) (by omega), wrap_u32 (x := y) (by omega) (by omega), bits_join .u32 32 (by decide) (fun n h0 h1 => wrap_u32 h0 (by omega)) 8 _ _ (by omega) (by omega) (by omega) (by omega) (by omega) (by omega)]
  omega
theorem PM.Inv.bd {n : Int} {m : PM} (h : m.Inv n) (a : Int) : 0 ≤ m.at_ a ∧ m.at_ a < 256 := by
  unfold PM.at_
  split
  · rename_i hk
    exact h.byte _ _ (h.key _ hk).2.2 (by omega)
  · omega
theorem PM.at_in (m : PM) {a i : Int} (h0 : 0 ≤ i) (h1 : a % 4096 + i < 4096) : m.at_ (a + i) = if m.has (a / 4096) = true then m.g (m.bb (a / 4096)) (a % 4096 + i).toNat else 0 := by
  unfold PM.at_
  rw [show (a + i) / 4096 = a / 4096 by omega, show (a + i) % 4096 = a % 4096 + i by omega]
theorem pow3 {c : Nat} (h : c ≤ 3) : (256 : Int) ^ c ≤ 16777216 := by
  have : c = 0 ∨ c = 1 ∨ c = 2 ∨ c = 3 := by omega
  rcases this with rfl | rfl | rfl | rfl <;> decide
theorem set_step {n : Int} {m : PM} {a i w : Int} (hI : m.Inv n) (hk : m.has (a / 4096) = true) (h0 : 0 ≤ i) (h1 : a % 4096 + i < 4096) (hw0 : 0 ≤ w) (hw1 : w < 256) :
    (PM.mk m.has m.bb m.ln m.dom (putB m.g (m.bb (a / 4096)) (a % 4096 + i).toNat w)).Inv n ∧ ∀ c, (PM.mk m.has m.bb m.ln m.dom (putB m.g (m.bb (a / 4096)) (a % 4096 + i).toNat w)).at_ c = if c = a + i then w else m.at_ c := by
  refine ⟨⟨hI.ln, hI.key, hI.inj, fun b j hb hj => ?_⟩, fun c => ?_⟩
  · simp only [putB]
    split
    · split
      · omega
      · exact hI.byte b j hb hj
    · exact hI.byte b j hb hj
  · simp only [PM.at_, putB]
    by_cases hc : c / 4096 = a / 4096
    · rw [hc]
      simp only [hk, if_true]
      by_cases he : c = a + i
      · rw [if_pos he, if_pos (by rw [he]; omega)]
      · rw [if_neg he, if_neg (by omega)]
    · rw [if_neg (show ¬ c = a + i by omega)]
      split
      · rename_i hh
        rw [if_neg (fun e => hc (hI.inj _ _ hh hk e))]
      · rfl
theorem setF_zero (f : Int → Int) (a v b : Int) : setF f a 0 v b = f b := by
  unfold setF; rw [if_neg (by omega)]
theorem setF_step (f : Int → Int) (a i v b : Int) (h0 : 0 ≤ i) : setF f a (i + 1) v b = if b = a + i then v / 256 ^ i.toNat % 256 else setF f a i v b := by
  unfold setF
  by_cases h : b = a + i
  · rw [if_pos h, if_pos (by omega), h, show (a + i - a).toNat = i.toNat by omega]
  · rw [if_neg h]
    by_cases h2 : a ≤ b ∧ b < a + i
    · rw [if_pos h2, if_pos (by omega)]
    · rw [if_neg h2, if_neg (by omega)]
theorem div_pow (v : Int) (i : Nat) : v / 256 ^ i / 256 = v / 256 ^ (i + 1) := by
  rw [Int.pow_succ, Int.ediv_ediv_of_nonneg (Int.pow_nonneg (by decide))]
/-- the error of so many bytes at a place -/
def err (n a k : Int) : Int := if a % k ≠ 0 then 2 else if a ≥ n * 4096 then 30 else 0
theorem err_ok {n a k : Int} (h : err n a k = 0) : a % k = 0 ∧ a < n * 4096 := by
  unfold err at h
  split at h
  · cases h
  · rename_i h1
    split at h
    · cases h
    · exact ⟨by simpa using h1, by omega⟩
def wrA (n : Int) (f : Int → Int) (a k v : Int) : Int → Int := fun b => if err n a k = 0 then setF f a k v b else f b
theorem wrap_u16 {x : Int} (h1 : 0 ≤ x) (h2 : x ≤ 65535) : IntKind.u16.wrap x = x := by
  simp only [IntKind.wrap, IntKind.bits, IntKind.signed]; simp; omega
theorem le_one (f : Int → Int) (a : Int) : le f a 1 = f a := by simp [le]
theorem le_two (f : Int → Int) (a : Int) : le f a 2 = f a + 256 * f (a + 1) := by simp [le]
theorem inv_none (n : Int) : (PM.mk (fun _ => false) (fun _ => 0) (fun _ => 4096) (fun _ => false) (fun _ _ => 0)).Inv n :=
  ⟨fun _ => rfl, fun k h => by simp at h, fun k k' h => by simp at h, fun b j h => by simp at h⟩
theorem nodup_of_inj {m : Nat} {f : Nat → Int} (h : ∀ i j, i < m → j < m → f i = f j → i = j) : ((List.range m).map f).Nodup := by
  rw [List.Nodup, List.pairwise_map]
  refine List.Pairwise.imp_of_mem ?_ List.nodup_range
  intro a b ha hb hne he
  exact hne (h a b (by simpa using ha) (by simpa using hb) he)
structure RM where
  cnt : Nat
  no : Nat → Int
  bb : Nat → Nat
  sl : Nat → Nat
  ln : Nat → Nat
  dom : Nat → Bool
  g : Nat → Nat → Int
structure RM.Inv (n : Int) (m : RM) : Prop where
  ln : ∀ b, m.ln b = 4096
  sl : ∀ i, i < m.cnt → m.sl i = 4096
  key : ∀ i, i < m.cnt → 0 ≤ m.no i ∧ m.no i < n ∧ m.dom (m.bb i) = true
  uniq : ∀ i j, i < m.cnt → j < m.cnt → m.no i = m.no j → i = j
  inj : ∀ i j, i < m.cnt → j < m.cnt → m.bb i = m.bb j → i = j
  byte : ∀ b j, m.dom b = true → j < 4096 → 0 ≤ m.g b j ∧ m.g b j < 256
def findI (sp : Nat → Int) (s : Int) : Nat → Nat → Nat
  | 0, k => k
  | n + 1, k => if sp k = s then k else findI sp s n (k + 1)
theorem findI_bd (sp : Nat → Int) (s : Int) : ∀ (n k : Nat), k ≤ findI sp s n k ∧ findI sp s n k ≤ k + n
  | 0, k => by simp [findI]
  | n + 1, k => by
    unfold findI
    split
    · omega
    · have := findI_bd sp s n (k + 1); omega
theorem find_hit {sp : Nat → Int} {s : Int} {n : Nat} {x : Int} (h0 : 0 ≤ x) (hl : x < n) (h3 : findI sp s n 0 = findI sp s (n - x.toNat) x.toNat) (h : sp x.toNat = s) : findI sp s n 0 = x.toNat := by
  rw [h3, show n - x.toNat = (n - x.toNat - 1) + 1 by omega, findI, if_pos h]
theorem find_next {sp : Nat → Int} {s : Int} {n : Nat} {x : Int} (h0 : 0 ≤ x) (hl : x < n) (h3 : findI sp s n 0 = findI sp s (n - x.toNat) x.toNat) (h : ¬ sp x.toNat = s) : findI sp s n 0 = findI sp s (n - (x + 1).toNat) (x + 1).toNat := by
  rw [h3, show n - x.toNat = (n - (x + 1).toNat) + 1 by omega, findI, if_neg h, show (x + 1).toNat = x.toNat + 1 by omega]
theorem find_end {sp : Nat → Int} {s : Int} {n : Nat} {x : Int} (h0 : 0 ≤ x) (hx : x ≤ n) (hl : ¬ x < n) (h3 : findI sp s n 0 = findI sp s (n - x.toNat) x.toNat) : findI sp s n 0 = n := by
  rw [h3, show n - x.toNat = 0 by omega, findI]; omega
def RM.ix (m : RM) (k : Int) : Nat := findI m.no k m.cnt 0
/-- the byte at a place -/
def RM.at_ (m : RM) (a : Int) : Int := if m.ix (a / 4096) < m.cnt then m.g (m.bb (m.ix (a / 4096))) (a % 4096).toNat else 0
theorem findI_hit {sp : Nat → Int} {s : Int} : ∀ {n k : Nat}, findI sp s n k < k + n → sp (findI sp s n k) = s
  | 0, k, h => by simp [findI] at h
  | n + 1, k, h => by
    unfold findI at h ⊢
    split
    · assumption
    · rename_i hne
      rw [if_neg hne] at h
      exact findI_hit (by omega)
theorem findI_none {sp : Nat → Int} {s : Int} : ∀ {n k : Nat}, ¬ findI sp s n k < k + n → ∀ j, k ≤ j → j < k + n → sp j ≠ s
  | 0, k, _, j, h1, h2 => by omega
  | n + 1, k, h, j, h1, h2 => by
    unfold findI at h
    split at h
    · omega
    · rename_i hne
      rcases Nat.eq_or_lt_of_le h1 with rfl | h1
      · exact hne
      · exact findI_none (n := n) (k := k + 1) (by omega) j h1 (by omega)
theorem RM.ix_hit {m : RM} {k : Int} (h : m.ix k < m.cnt) : m.no (m.ix k) = k := findI_hit (by rw [Nat.zero_add]; exact h)
theorem RM.ix_none {m : RM} {k : Int} (h : ¬ m.ix k < m.cnt) {j : Nat} (hj : j < m.cnt) : m.no j ≠ k := findI_none (k := 0) (by rw [Nat.zero_add]; exact h) j (Nat.zero_le _) (by omega)
theorem RM.ix_eq {n : Int} {m : RM} (hI : m.Inv n) {i : Nat} (hi : i < m.cnt) : m.ix (m.no i) = i := by
  by_cases h : m.ix (m.no i) < m.cnt
  · exact hI.uniq _ _ h hi (RM.ix_hit h)
  · exact absurd rfl (RM.ix_none h hi)
theorem RM.ix_le (m : RM) (k : Int) : m.ix k ≤ m.cnt := by
  have := (findI_bd m.no k m.cnt 0).2
  simpa [RM.ix] using this
theorem RM.at_of {n : Int} {m : RM} (hI : m.Inv n) {i : Nat} (hi : i < m.cnt) {a : Int} (h : m.no i = a / 4096) : m.at_ a = m.g (m.bb i) (a % 4096).toNat := by
  have e := RM.ix_eq hI hi
  rw [h] at e
  unfold RM.at_
  rw [e, if_pos hi]
theorem RM.at_none {m : RM} {a : Int} (h : ∀ i, i < m.cnt → m.no i ≠ a / 4096) : m.at_ a = 0 := by
  unfold RM.at_
  rw [if_neg (fun hi => h _ hi (RM.ix_hit hi))]
theorem RM.Inv.bd {n : Int} {m : RM} (hI : m.Inv n) (a : Int) : 0 ≤ m.at_ a ∧ m.at_ a < 256 := by
  unfold RM.at_
  split
  · rename_i h
    exact hI.byte _ _ (hI.key _ h).2.2 (by omega)
  · omega
theorem RM.Inv.cnt_le {n : Int} {m : RM} (hI : m.Inv n) : m.cnt ≤ n.toNat := by
  have hn : ((List.range m.cnt).map m.no).Nodup := nodup_of_inj (fun i j hi hj e => hI.uniq i j hi hj e)
  have := List.Nodup.length_le_of_subset (l₂ := (List.range n.toNat).map Int.ofNat) hn (fun x hx => by
    simp only [List.mem_map, List.mem_range] at hx
    obtain ⟨i, hi, rfl⟩ := hx
    obtain ⟨h1, h2, _⟩ := hI.key i hi
    exact List.mem_map.2 ⟨(m.no i).toNat, List.mem_range.2 (by omega), by simp only [Int.ofNat_eq_natCast]; omega⟩)
  simpa using this
/-- a byte of a frame that there is -/
theorem rput_old {n : Int} {m : RM} (hI : m.Inv n) {a v : Int} (h : m.ix (a / 4096) < m.cnt) (h0 : 0 ≤ v) (h1 : v < 256) :
    (RM.mk m.cnt m.no m.bb m.sl m.ln m.dom (putB m.g (m.bb (m.ix (a / 4096))) (a % 4096).toNat v)).Inv n ∧ ∀ b, (RM.mk m.cnt m.no m.bb m.sl m.ln m.dom (putB m.g (m.bb (m.ix (a / 4096))) (a % 4096).toNat v)).at_ b = if b = a then v else m.at_ b := by
  refine ⟨⟨hI.ln, hI.sl, hI.key, hI.uniq, hI.inj, fun b j hb hj => ?_⟩, fun b => ?_⟩
  · simp only [putB]
    split
    · split
      · omega
      · exact hI.byte b j hb hj
    · exact hI.byte b j hb hj
  · have e : ∀ k, (RM.mk m.cnt m.no m.bb m.sl m.ln m.dom (putB m.g (m.bb (m.ix (a / 4096))) (a % 4096).toNat v)).ix k = m.ix k := fun _ => rfl
    unfold RM.at_
    rw [e]
    simp only [putB]
    by_cases hc : b / 4096 = a / 4096
    · rw [hc, if_pos h, if_pos h]
      simp only [if_true]
      by_cases he : b = a
      · rw [if_pos he, if_pos (by rw [he])]
      · rw [if_neg he, if_neg (by omega)]
    · rw [if_neg (show ¬ b = a by intro e; rw [e] at hc; exact hc rfl)]
      split
      · rename_i hb
        rw [if_neg (fun e => hc (by
          have := hI.inj _ _ hb h e
          rw [← RM.ix_hit hb, this, RM.ix_hit h]))]
      · rfl
/-- a new frame -/
theorem rput_new {n : Int} {m : RM} (hI : m.Inv n) {k : Int} (hk0 : 0 ≤ k) (hk1 : k < n) (h : ¬ m.ix k < m.cnt) {b : Nat} (hb : m.dom b = false) :
    (RM.mk (m.cnt + 1) (appN m.no m.cnt fun _ => k) (appN m.bb m.cnt fun _ => b) (appN m.sl m.cnt fun _ => 4096) m.ln (putD m.dom b) (putBlk m.g b fun _ => 0)).Inv n ∧
      (∀ a, (RM.mk (m.cnt + 1) (appN m.no m.cnt fun _ => k) (appN m.bb m.cnt fun _ => b) (appN m.sl m.cnt fun _ => 4096) m.ln (putD m.dom b) (putBlk m.g b fun _ => 0)).at_ a = m.at_ a) ∧
      (RM.mk (m.cnt + 1) (appN m.no m.cnt fun _ => k) (appN m.bb m.cnt fun _ => b) (appN m.sl m.cnt fun _ => 4096) m.ln (putD m.dom b) (putBlk m.g b fun _ => 0)).ix k = m.cnt := by
  have hne : ∀ i, i < m.cnt → m.bb i ≠ b := fun i hi e => by
    have := (hI.key i hi).2.2
    rw [e, hb] at this; cases this
  have hno : ∀ i, i < m.cnt → m.no i ≠ k := fun i hi => RM.ix_none h hi
  have hinv : (RM.mk (m.cnt + 1) (appN m.no m.cnt fun _ => k) (appN m.bb m.cnt fun _ => b) (appN m.sl m.cnt fun _ => 4096) m.ln (putD m.dom b) (putBlk m.g b fun _ => 0)).Inv n := by
    refine ⟨hI.ln, fun i hi => ?_, fun i hi => ?_, fun i j hi hj e => ?_, fun i j hi hj e => ?_, fun c j hc hj => ?_⟩
    · simp only [appN]
      split
      · rename_i h'; exact hI.sl i h'
      · rfl
    · simp only [appN, putD]
      split
      · rename_i h'
        obtain ⟨a, b', c⟩ := hI.key i h'
        refine ⟨a, b', ?_⟩
        split
        · rfl
        · exact c
      · exact ⟨hk0, hk1, by simp⟩
    · have hi : i < m.cnt + 1 := hi
      have hj : j < m.cnt + 1 := hj
      simp only [appN] at e
      split at e <;> split at e
      · rename_i a b; exact hI.uniq i j a b e
      · rename_i a b; exact absurd e (hno i a)
      · rename_i a b; exact absurd e.symm (hno j b)
      · omega
    · have hi : i < m.cnt + 1 := hi
      have hj : j < m.cnt + 1 := hj
      simp only [appN] at e
      split at e <;> split at e
      · rename_i a b; exact hI.inj i j a b e
      · rename_i a b; exact absurd e (hne i a)
      · rename_i a b; exact absurd e.symm (hne j b)
      · omega
    · simp only [putD] at hc
      simp only [putBlk]
      split
      · omega
      · rename_i hcb
        rw [if_neg hcb] at hc
        exact hI.byte c j hc hj
  refine ⟨hinv, fun a => ?_, ?_⟩
  · by_cases hx : m.ix (a / 4096) < m.cnt
    · have e1 := RM.at_of hI hx (RM.ix_hit hx)
      have e2 := RM.at_of hinv (i := m.ix (a / 4096)) (Nat.lt_succ_of_lt hx) (a := a) (by simp only [appN]; rw [if_pos hx]; exact RM.ix_hit hx)
      rw [e1, e2]
      simp only [appN, if_pos hx, putBlk, if_neg (hne _ hx)]
    · rw [RM.at_none (m := m) (fun i hi => RM.ix_none hx hi)]
      by_cases hk : a / 4096 = k
      · rw [RM.at_of hinv (i := m.cnt) (Nat.lt_succ_self _) (a := a) (by simp [appN, hk])]
        simp [appN, putBlk]
      · refine RM.at_none (fun i hi => ?_)
        have hi : i < m.cnt + 1 := hi
        simp only [appN]
        split
        · rename_i h'; exact RM.ix_none hx h'
        · exact fun e => hk e.symm
  · have := RM.ix_eq hinv (i := m.cnt) (Nat.lt_succ_self _)
    simpa [appN] using this
theorem room32 {m : Nat} (h : m ≤ 65536) : (m + 1 + (m + 1) / 4 + 192) * 32 ≤ 281474976710656 := by omega
theorem appN_at {α : Type} (f : Nat → α) (n : Nat) (h : Nat → α) : appN f n h n = h 0 := by simp [appN]
/-- a byte of a new frame -/
theorem rput_fresh {n : Int} {m : RM} (hI : m.Inv n) {a v : Int} (h0 : 0 ≤ a) (h1 : a < n * 4096) (hx : ¬ m.ix (a / 4096) < m.cnt) {b : Nat} (hb : m.dom b = false) (hv0 : 0 ≤ v) (hv1 : v < 256) :
    (RM.mk (m.cnt + 1) (appN m.no m.cnt fun _ => a / 4096) (appN m.bb m.cnt fun _ => b) (appN m.sl m.cnt fun _ => 4096) m.ln (putD m.dom b) (putB (putBlk m.g b fun _ => 0) b (a % 4096).toNat v)).Inv n ∧
      ∀ c, (RM.mk (m.cnt + 1) (appN m.no m.cnt fun _ => a / 4096) (appN m.bb m.cnt fun _ => b) (appN m.sl m.cnt fun _ => 4096) m.ln (putD m.dom b) (putB (putBlk m.g b fun _ => 0) b (a % 4096).toNat v)).at_ c = if c = a then v else m.at_ c := by
  obtain ⟨i1, i2, i3⟩ := rput_new hI (k := a / 4096) (by omega) (by omega) hx hb
  obtain ⟨j1, j2⟩ := rput_old i1 (a := a) (v := v) (by rw [i3]; exact Nat.lt_succ_self _) hv0 hv1
  rw [i3] at j1 j2
  simp only [appN_at] at j1 j2
  exact ⟨j1, fun c => by rw [j2 c, i2 c]⟩
theorem err_one {n a : Int} : err n a 1 = if a ≥ n * 4096 then 30 else 0 := by
  unfold err; rw [if_neg (by omega)]
noncomputable def bytesC : Con := ⟨68, fun args h => match args, h with
  | [.val (.one (.ptr 2 0))], [.mem false [.cells [.int .i64 (.tm n), .map 3]], .mp false .i64 false has [.fptrs 4 bb], .fam false 136 .u8 ln dom g] => some [⟨none, some (0 ≤ n ∧ n ≤ 65536), .det (.val (.one (.int .u64 (.tm (n * 4096))))) ([.mem false [.cells [.int .i64 (.tm n), .map 3]], .mp false .i64 false has [.fptrs 4 bb], .fam false 136 .u8 ln dom g])⟩]
  | _, _ => none, true⟩
theorem bytesC_p0 (n : Int) (has : Int → Bool) (bb : Int → Nat) (ln : Nat → Nat) (dom : Nat → Bool) (g : Nat → Nat → Int) (hn : 0 ≤ n ∧ n ≤ 65536) : ∃ anns, fnVC Tryd.prog GTab (callOf Tryd.prog GTab []) anns Tryd.f68 ((Tryd.f68.body).getD .skip) [.val (.one (.ptr 2 0))] [.mem false [.cells [.int .i64 (.tm n), .map 3]], .mp false .i64 false has [.fptrs 4 bb], .fam false 136 .u8 ln dom g] ⟨none, some (0 ≤ n ∧ n ≤ 65536), .det (.val (.one (.int .u64 (.tm (n * 4096))))) ([.mem false [.cells [.int .i64 (.tm n), .map 3]], .mp false .i64 false has [.fptrs 4 bb], .fam false 136 .u8 ln dom g])⟩ := by
  refine ⟨⟨[], [], [], [], [], [], []⟩, ?_⟩
  rw [show fnVC Tryd.prog GTab (callOf Tryd.prog GTab []) ⟨[], [], [], [], [], [], []⟩ Tryd.f68 ((Tryd.f68.body).getD .skip) [.val (.one (.ptr 2 0))] [.mem false [.cells [.int .i64 (.tm n), .map 3]], .mp false .i64 false has [.fptrs 4 bb], .fam false 136 .u8 ln dom g] ⟨none, some (0 ≤ n ∧ n ≤ 65536), .det (.val (.one (.int .u64 (.tm (n * 4096))))) ([.mem false [.cells [.int .i64 (.tm n), .map 3]], .mp false .i64 false has [.fptrs 4 bb], .fam false 136 .u8 ln dom g])⟩ = (IntKind.u64.wrap (IntKind.u64.wrap n * (4096 : Int)) = n * (4096 : Int) ∧ n = n ∧ ((∀ (i : Int), has i = has i) ∧ ∀ (i : Int), has i = true → bb i = bb i) ∧ ∀ (b : Nat), dom b = true → dom b = true ∧ ln b = ln b ∧ ∀ (j : Nat), j < ln b → g b j = g b j) from by kernel_rfl]
  rw [wrap_u64 (x := n) (by omega) (by omega), wrap_u64 (by omega) (by omega)]
  simp
theorem bytesC_ch (n : Int) (has : Int → Bool) (bb : Int → Nat) (ln : Nat → Nat) (dom : Nat → Bool) (g : Nat → Nat → Int) : ∃ r ∈ ([⟨none, some (0 ≤ n ∧ n ≤ 65536), .det (.val (.one (.int .u64 (.tm (n * 4096))))) ([.mem false [.cells [.int .i64 (.tm n), .map 3]], .mp false .i64 false has [.fptrs 4 bb], .fam false 136 .u8 ln dom g])⟩] : List Res), holdsP r.g ∧ (holdsP r.need → r.r.shaped [.mem false [.cells [.int .i64 (.tm n), .map 3]], .mp false .i64 false has [.fptrs 4 bb], .fam false 136 .u8 ln dom g] ∧ ∃ anns, fnVC Tryd.prog GTab (callOf Tryd.prog GTab []) anns Tryd.f68 ((Tryd.f68.body).getD .skip) [.val (.one (.ptr 2 0))] [.mem false [.cells [.int .i64 (.tm n), .map 3]], .mp false .i64 false has [.fptrs 4 bb], .fam false 136 .u8 ln dom g] r) := by
  exact ⟨_, List.mem_cons_self, trivial, fun hn => ⟨trivial, bytesC_p0 n has bb ln dom g hn⟩⟩
theorem bytesC_ok : bytesC.ok Tryd.prog GTab := by
  refine con_ok (cs := []) (body := (Tryd.f68.body).getD .skip) ?_ Tryd.func68 rfl ?_
  · intro c h; cases h
  · intro args h l hl
    unfold bytesC at hl
    dsimp only at hl
    split at hl
    · cases hl
      exact bytesC_ch _ _ _ _ _ _
    · cases hl
noncomputable def checkC : Con := ⟨39, fun args h => match args, h with
  | [.val (.one (.ptr 2 0)), .val (.one (.int .u64 (.tm a))), .val (.one (.int .u64 (.tm k)))], [.mem false [.cells [.int .i64 (.tm n), .map 3]], .mp false .i64 false has [.fptrs 4 bb], .fam false 136 .u8 ln dom g] => some [⟨none, some (0 ≤ n ∧ n ≤ 65536 ∧ 0 < k ∧ 0 ≤ a), .det (.val (.one (.int .i64 (.tm (err n a k))))) ([.mem false [.cells [.int .i64 (.tm n), .map 3]], .mp false .i64 false has [.fptrs 4 bb], .fam false 136 .u8 ln dom g])⟩]
  | _, _ => none, true⟩
theorem checkC_p0 (n : Int) (has : Int → Bool) (bb : Int → Nat) (ln : Nat → Nat) (dom : Nat → Bool) (g : Nat → Nat → Int) (a k : Int) (hn : 0 ≤ n ∧ n ≤ 65536 ∧ 0 < k ∧ 0 ≤ a) : ∃ anns, fnVC Tryd.prog GTab (callOf Tryd.prog GTab [bytesC]) anns Tryd.f39 ((Tryd.f39.body).getD .skip) [.val (.one (.ptr 2 0)), .val (.one (.int .u64 (.tm a))), .val (.one (.int .u64 (.tm k)))] [.mem false [.cells [.int .i64 (.tm n), .map 3]], .mp false .i64 false has [.fptrs 4 bb], .fam false 136 .u8 ln dom g] ⟨none, some (0 ≤ n ∧ n ≤ 65536 ∧ 0 < k ∧ 0 ≤ a), .det (.val (.one (.int .i64 (.tm (err n a k))))) ([.mem false [.cells [.int .i64 (.tm n), .map 3]], .mp false .i64 false has [.fptrs 4 bb], .fam false 136 .u8 ln dom g])⟩ := by
  refine ⟨⟨[], [], [], [], [], [], []⟩, ?_⟩
  rw [show fnVC Tryd.prog GTab (callOf Tryd.prog GTab [bytesC]) ⟨[], [], [], [], [], [], []⟩ Tryd.f39 ((Tryd.f39.body).getD .skip) [.val (.one (.ptr 2 0)), .val (.one (.int .u64 (.tm a))), .val (.one (.int .u64 (.tm k)))] [.mem false [.cells [.int .i64 (.tm n), .map 3]], .mp false .i64 false has [.fptrs 4 bb], .fam false 136 .u8 ln dom g] ⟨none, some (0 ≤ n ∧ n ≤ 65536 ∧ 0 < k ∧ 0 ≤ a), .det (.val (.one (.int .i64 (.tm (err n a k))))) ([.mem false [.cells [.int .i64 (.tm n), .map 3]], .mp false .i64 false has [.fptrs 4 bb], .fam false 136 .u8 ln dom g])⟩ = ((k = (0 : Int) → False) ∧ ((!decide (a.tmod k = (0 : Int))) = true → (2 : Int) = err n a k ∧ n = n ∧ ((∀ (i : Int), has i = has i) ∧ ∀ (i : Int), has i = true → bb i = bb i) ∧ ∀ (b : Nat), dom b = true → dom b = true ∧ ln b = ln b ∧ ∀ (j : Nat), j < ln b → g b j = g b j) ∧ ((!decide (a.tmod k = (0 : Int))) = false → ((0 : Int) ≤ n ∧ n ≤ (65536 : Int)) ∧ ((!decide (a < n * (4096 : Int))) = true → (30 : Int) = err n a k ∧ n = n ∧ ((∀ (i : Int), has i = has i) ∧ ∀ (i : Int), has i = true → bb i = bb i) ∧ ∀ (b : Nat), dom b = true → dom b = true ∧ ln b = ln b ∧ ∀ (j : Nat), j < ln b → g b j = g b j) ∧ ((!decide (a < n * (4096 : Int))) = false → (0 : Int) = err n a k ∧ n = n ∧ ((∀ (i : Int), has i = has i) ∧ ∀ (i : Int), has i = true → bb i = bb i) ∧ ∀ (b : Nat), dom b = true → dom b = true ∧ ln b = ln b ∧ ∀ (j : Nat), j < ln b → g b j = g b j))) from by kernel_rfl]
  rw [tmod_pos hn.2.2.2]
  simp [hn, err]
  refine ⟨by omega, fun h => by simp [h], fun h => ⟨fun h1 => by simp [h, h1], fun h1 => ?_⟩⟩
  rw [if_pos h, if_neg (by omega)]
theorem checkC_ch (n : Int) (has : Int → Bool) (bb : Int → Nat) (ln : Nat → Nat) (dom : Nat → Bool) (g : Nat → Nat → Int) (a k : Int) : ∃ r ∈ ([⟨none, some (0 ≤ n ∧ n ≤ 65536 ∧ 0 < k ∧ 0 ≤ a), .det (.val (.one (.int .i64 (.tm (err n a k))))) ([.mem false [.cells [.int .i64 (.tm n), .map 3]], .mp false .i64 false has [.fptrs 4 bb], .fam false 136 .u8 ln dom g])⟩] : List Res), holdsP r.g ∧ (holdsP r.need → r.r.shaped [.mem false [.cells [.int .i64 (.tm n), .map 3]], .mp false .i64 false has [.fptrs 4 bb], .fam false 136 .u8 ln dom g] ∧ ∃ anns, fnVC Tryd.prog GTab (callOf Tryd.prog GTab [bytesC]) anns Tryd.f39 ((Tryd.f39.body).getD .skip) [.val (.one (.ptr 2 0)), .val (.one (.int .u64 (.tm a))), .val (.one (.int .u64 (.tm k)))] [.mem false [.cells [.int .i64 (.tm n), .map 3]], .mp false .i64 false has [.fptrs 4 bb], .fam false 136 .u8 ln dom g] r) := by
  exact ⟨_, List.mem_cons_self, trivial, fun hn => ⟨trivial, checkC_p0 n has bb ln dom g a k hn⟩⟩
theorem checkC_ok : checkC.ok Tryd.prog GTab := by
  refine con_ok (cs := [bytesC]) (body := (Tryd.f39.body).getD .skip) ?_ Tryd.func39 rfl ?_
  · intro c h
    simp only [List.mem_cons, List.not_mem_nil, or_false] at h
    rcases h with rfl
    · exact bytesC_ok
  · intro args h l hl
    unfold checkC at hl
    dsimp only at hl
    split at hl
    · cases hl
      exact checkC_ch _ _ _ _ _ _ _ _
    · cases hl
noncomputable def newC : Con := ⟨34, fun args h => match args, h with
  | [.val (.one (.int .i64 (.tm n)))], [] => some [⟨some (n < 1 ∨ 65536 < n), none, .det (.tup [.one (.cst (.pointer none)), .one (.int .i64 (.lit 1))]) ([])⟩, ⟨some (¬ (n < 1 ∨ 65536 < n)), none, .det (.tup [.one (.ptr 2 0), .one (.int .i64 (.lit 0))]) ([.mem true [.cells [.int .i64 (.tm n), .map 3]], .mp true .i64 false (fun _ => false) [.fptrs 4 (fun _ => 0)], .fam true 136 .u8 (fun _ => 4096) (fun _ => false) (fun _ _ => 0)])⟩]
  | _, _ => none, false⟩
theorem newC_p0 (n : Int) (hg : n < 1 ∨ 65536 < n) : ∃ anns, fnVC Tryd.prog GTab (callOf Tryd.prog GTab []) anns Tryd.f34 ((Tryd.f34.body).getD .skip) [.val (.one (.int .i64 (.tm n)))] [] ⟨some (n < 1 ∨ 65536 < n), none, .det (.tup [.one (.cst (.pointer none)), .one (.int .i64 (.lit 1))]) ([])⟩ := by
  refine ⟨⟨[], [], [], [], [], [], []⟩, ?_⟩
  rw [show fnVC Tryd.prog GTab (callOf Tryd.prog GTab []) ⟨[], [], [], [], [], [], []⟩ Tryd.f34 ((Tryd.f34.body).getD .skip) [.val (.one (.int .i64 (.tm n)))] [] ⟨some (n < 1 ∨ 65536 < n), none, .det (.tup [.one (.cst (.pointer none)), .one (.int .i64 (.lit 1))]) ([])⟩ = (((!decide (n < (1 : Int))) = true → (!decide (n < (1 : Int))) = true) ∧ (decide (n < (1 : Int)) = false → (!decide (n < (1 : Int))) = true) ∧ ((bif decide (n < (1 : Int)) then true else decide ((65536 : Int) < n)) = true → L.cst (Value.pointer none) = L.cst (Value.pointer none)) ∧ ((bif decide (n < (1 : Int)) then true else decide ((65536 : Int) < n)) = false → False)) from by kernel_rfl]
  simp; omega
theorem newC_p1 (n : Int) (hg : ¬ (n < 1 ∨ 65536 < n)) : ∃ anns, fnVC Tryd.prog GTab (callOf Tryd.prog GTab []) anns Tryd.f34 ((Tryd.f34.body).getD .skip) [.val (.one (.int .i64 (.tm n)))] [] ⟨some (¬ (n < 1 ∨ 65536 < n)), none, .det (.tup [.one (.ptr 2 0), .one (.int .i64 (.lit 0))]) ([.mem true [.cells [.int .i64 (.tm n), .map 3]], .mp true .i64 false (fun _ => false) [.fptrs 4 (fun _ => 0)], .fam true 136 .u8 (fun _ => 4096) (fun _ => false) (fun _ _ => 0)])⟩ := by
  refine ⟨⟨[], [], [], [], [], [], []⟩, ?_⟩
  rw [show fnVC Tryd.prog GTab (callOf Tryd.prog GTab []) ⟨[], [], [], [], [], [], []⟩ Tryd.f34 ((Tryd.f34.body).getD .skip) [.val (.one (.int .i64 (.tm n)))] [] ⟨some (¬ (n < 1 ∨ 65536 < n)), none, .det (.tup [.one (.ptr 2 0), .one (.int .i64 (.lit 0))]) ([.mem true [.cells [.int .i64 (.tm n), .map 3]], .mp true .i64 false (fun _ => false) [.fptrs 4 (fun _ => 0)], .fam true 136 .u8 (fun _ => 4096) (fun _ => false) (fun _ _ => 0)])⟩ = (((!decide (n < (1 : Int))) = true → (!decide (n < (1 : Int))) = true) ∧ (decide (n < (1 : Int)) = false → (!decide (n < (1 : Int))) = true) ∧ ((bif decide (n < (1 : Int)) then true else decide ((65536 : Int) < n)) = true → False) ∧ ((bif decide (n < (1 : Int)) then true else decide ((65536 : Int) < n)) = false → n = n ∧ ((∀ (i : Int), false = false) ∧ ∀ (i : Int), false = true → (0 : Nat) = (0 : Nat)) ∧ ∀ (b : Nat), false = true → false = true ∧ (4096 : Nat) = (4096 : Nat) ∧ ∀ (j : Nat), j < (4096 : Nat) → (0 : Int) = (0 : Int))) from by kernel_rfl]
  simp_all
theorem newC_ch (n : Int) : ∃ r ∈ ([⟨some (n < 1 ∨ 65536 < n), none, .det (.tup [.one (.cst (.pointer none)), .one (.int .i64 (.lit 1))]) ([])⟩, ⟨some (¬ (n < 1 ∨ 65536 < n)), none, .det (.tup [.one (.ptr 2 0), .one (.int .i64 (.lit 0))]) ([.mem true [.cells [.int .i64 (.tm n), .map 3]], .mp true .i64 false (fun _ => false) [.fptrs 4 (fun _ => 0)], .fam true 136 .u8 (fun _ => 4096) (fun _ => false) (fun _ _ => 0)])⟩] : List Res), holdsP r.g ∧ (holdsP r.need → r.r.shaped [] ∧ ∃ anns, fnVC Tryd.prog GTab (callOf Tryd.prog GTab []) anns Tryd.f34 ((Tryd.f34.body).getD .skip) [.val (.one (.int .i64 (.tm n)))] [] r) := by
  have hx : (n < 1 ∨ 65536 < n) ∨ (¬ (n < 1 ∨ 65536 < n)) := by
    by_cases h : n < 1 ∨ 65536 < n
    · exact .inl h
    · exact .inr h
  rcases hx with h | h
  · exact ⟨_, List.mem_cons_self, h, fun _ => ⟨trivial, newC_p0 n h⟩⟩
  · exact ⟨_, (List.mem_cons_of_mem _ List.mem_cons_self), h, fun _ => ⟨trivial, newC_p1 n h⟩⟩
theorem newC_ok : newC.ok Tryd.prog GTab := by
  refine con_ok (cs := []) (body := (Tryd.f34.body).getD .skip) ?_ Tryd.func34 rfl ?_
  · intro c h; cases h
  · intro args h l hl
    unfold newC at hl
    dsimp only at hl
    split at hl
    · cases hl
      exact newC_ch _
    · cases hl
noncomputable def ownC : Con := ⟨69, fun args h => match args, h with
  | [.val (.one (.ptr 2 0)), .val (.one (.int .u64 (.tm a)))], [.mem true [.cells [.int .i64 (.tm n), .map 3]], .mp true .i64 false has [.fptrs 4 bb], .fam true 136 .u8 ln dom g] => some [⟨none, some (0 ≤ a ∧ a < n * 4096 ∧ n ≤ 65536 ∧ (⟨has, bb, ln, dom, g⟩ : PM).Inv n), .rel PM 3 (fun x => some (x.Inv n ∧ x.has (a / 4096) = true ∧ ∀ b, 0 ≤ b → x.at_ b = (⟨has, bb, ln, dom, g⟩ : PM).at_ b)) (fun x => .val (.one (.fptr 4 (x.bb (a / 4096)) 0))) (fun x => [.mem true [.cells [.int .i64 (.tm n), .map 3]], .mp true .i64 false x.has [.fptrs 4 x.bb], .fam true 136 .u8 x.ln x.dom x.g])⟩]
  | _, _ => none, false⟩
theorem ownC_p0 (n : Int) (has : Int → Bool) (bb : Int → Nat) (ln : Nat → Nat) (dom : Nat → Bool) (g : Nat → Nat → Int) (a : Int) (hn : 0 ≤ a ∧ a < n * 4096 ∧ n ≤ 65536 ∧ (⟨has, bb, ln, dom, g⟩ : PM).Inv n) : ∃ anns, fnVC Tryd.prog GTab (callOf Tryd.prog GTab [famCon 136]) anns Tryd.f69 ((Tryd.f69.body).getD .skip) [.val (.one (.ptr 2 0)), .val (.one (.int .u64 (.tm a)))] [.mem true [.cells [.int .i64 (.tm n), .map 3]], .mp true .i64 false has [.fptrs 4 bb], .fam true 136 .u8 ln dom g] ⟨none, some (0 ≤ a ∧ a < n * 4096 ∧ n ≤ 65536 ∧ (⟨has, bb, ln, dom, g⟩ : PM).Inv n), .rel PM 3 (fun x => some (x.Inv n ∧ x.has (a / 4096) = true ∧ ∀ b, 0 ≤ b → x.at_ b = (⟨has, bb, ln, dom, g⟩ : PM).at_ b)) (fun x => .val (.one (.fptr 4 (x.bb (a / 4096)) 0))) (fun x => [.mem true [.cells [.int .i64 (.tm n), .map 3]], .mp true .i64 false x.has [.fptrs 4 x.bb], .fam true 136 .u8 x.ln x.dom x.g])⟩ := by
  refine ⟨⟨[], [], [], [], [], [], []⟩, ?_⟩
  rw [show fnVC Tryd.prog GTab (callOf Tryd.prog GTab [famCon 136]) ⟨[], [], [], [], [], [], []⟩ Tryd.f69 ((Tryd.f69.body).getD .skip) [.val (.one (.ptr 2 0)), .val (.one (.int .u64 (.tm a)))] [.mem true [.cells [.int .i64 (.tm n), .map 3]], .mp true .i64 false has [.fptrs 4 bb], .fam true 136 .u8 ln dom g] ⟨none, some (0 ≤ a ∧ a < n * 4096 ∧ n ≤ 65536 ∧ (⟨has, bb, ln, dom, g⟩ : PM).Inv n), .rel PM 3 (fun x => some (x.Inv n ∧ x.has (a / 4096) = true ∧ ∀ b, 0 ≤ b → x.at_ b = (⟨has, bb, ln, dom, g⟩ : PM).at_ b)) (fun x => .val (.one (.fptr 4 (x.bb (a / 4096)) 0))) (fun x => [.mem true [.cells [.int .i64 (.tm n), .map 3]], .mp true .i64 false x.has [.fptrs 4 x.bb], .fam true 136 .u8 x.ln x.dom x.g])⟩ = ((has (IntKind.i64.wrap (IntKind.u64.wrap (a.tdiv (4096 : Int)))) = true → ∃ (x : PM), (PM.Inv n x ∧ x.has (a / (4096 : Int)) = true ∧ ∀ (b : Int), (0 : Int) ≤ b → x.at_ b = (PM.mk has bb ln dom g).at_ b) ∧ (bb (IntKind.i64.wrap (IntKind.u64.wrap (a.tdiv (4096 : Int)))) = x.bb (a / (4096 : Int)) ∧ (0 : Nat) = (0 : Nat)) ∧ n = n ∧ ((∀ (i : Int), has i = x.has i) ∧ ∀ (i : Int), has i = true → bb i = x.bb i) ∧ ∀ (b : Nat), x.dom b = true → dom b = true ∧ x.ln b = ln b ∧ ∀ (j : Nat), j < x.ln b → g b j = x.g b j) ∧ (has (IntKind.i64.wrap (IntKind.u64.wrap (a.tdiv (4096 : Int)))) = false → (∀ (b : Nat), ln b = (4096 : Nat)) ∧ ∀ (x : Nat), dom x = false → ∃ (x_1 : PM), (PM.Inv n x_1 ∧ x_1.has (a / (4096 : Int)) = true ∧ ∀ (b : Int), (0 : Int) ≤ b → x_1.at_ b = (PM.mk has bb ln dom g).at_ b) ∧ (x = x_1.bb (a / (4096 : Int)) ∧ (0 : Nat) = (0 : Nat)) ∧ n = n ∧ ((∀ (i : Int), putK has (IntKind.i64.wrap (IntKind.u64.wrap (a.tdiv (4096 : Int)))) true i = x_1.has i) ∧ ∀ (i : Int), putK has (IntKind.i64.wrap (IntKind.u64.wrap (a.tdiv (4096 : Int)))) true i = true → putK bb (IntKind.i64.wrap (IntKind.u64.wrap (a.tdiv (4096 : Int)))) x i = x_1.bb i) ∧ ∀ (b : Nat), x_1.dom b = true → putD dom x b = true ∧ x_1.ln b = ln b ∧ ∀ (j : Nat), j < x_1.ln b → putBlk g x (fun (x : Nat) => (0 : Int)) b j = x_1.g b j)) from by kernel_rfl]
  rw [frame_of (by omega) (by omega)]
  obtain ⟨h0, h1, h2, hI⟩ := hn
  refine ⟨fun hh => ⟨PM.mk has bb ln dom g, ⟨hI, hh, fun _ _ => rfl⟩, by simp⟩, fun hh => ⟨hI.ln, fun b hb => ?_⟩⟩
  obtain ⟨k1, k2⟩ := own_new hI h0 h1 hh hb
  exact ⟨_, ⟨k1, by simp [putK], k2⟩, by simp [putK]⟩
theorem ownC_ch (n : Int) (has : Int → Bool) (bb : Int → Nat) (ln : Nat → Nat) (dom : Nat → Bool) (g : Nat → Nat → Int) (a : Int) : ∃ r ∈ ([⟨none, some (0 ≤ a ∧ a < n * 4096 ∧ n ≤ 65536 ∧ (⟨has, bb, ln, dom, g⟩ : PM).Inv n), .rel PM 3 (fun x => some (x.Inv n ∧ x.has (a / 4096) = true ∧ ∀ b, 0 ≤ b → x.at_ b = (⟨has, bb, ln, dom, g⟩ : PM).at_ b)) (fun x => .val (.one (.fptr 4 (x.bb (a / 4096)) 0))) (fun x => [.mem true [.cells [.int .i64 (.tm n), .map 3]], .mp true .i64 false x.has [.fptrs 4 x.bb], .fam true 136 .u8 x.ln x.dom x.g])⟩] : List Res), holdsP r.g ∧ (holdsP r.need → r.r.shaped [.mem true [.cells [.int .i64 (.tm n), .map 3]], .mp true .i64 false has [.fptrs 4 bb], .fam true 136 .u8 ln dom g] ∧ ∃ anns, fnVC Tryd.prog GTab (callOf Tryd.prog GTab [famCon 136]) anns Tryd.f69 ((Tryd.f69.body).getD .skip) [.val (.one (.ptr 2 0)), .val (.one (.int .u64 (.tm a)))] [.mem true [.cells [.int .i64 (.tm n), .map 3]], .mp true .i64 false has [.fptrs 4 bb], .fam true 136 .u8 ln dom g] r) := by
  exact ⟨_, List.mem_cons_self, trivial, fun hn => ⟨fun x _ => rfl, ownC_p0 n has bb ln dom g a hn⟩⟩
theorem ownC_ok : ownC.ok Tryd.prog GTab := by
  refine con_ok (cs := [famCon 136]) (body := (Tryd.f69.body).getD .skip) ?_ Tryd.func69 rfl ?_
  · intro c h
    simp only [List.mem_cons, List.not_mem_nil, or_false] at h
    rcases h with rfl
    · exact famCon_ok _
  · intro args h l hl
    unfold ownC at hl
    dsimp only at hl
    split at hl
    · cases hl
      exact ownC_ch _ _ _ _ _ _ _
    · cases hl
noncomputable def getC : Con := ⟨50, fun args h => match args, h with
  | [.val (.one (.ptr 2 0)), .val (.one (.int .u64 (.tm a))), .val (.one (.int .u64 (.tm k)))], [.mem false [.cells [.int .i64 (.tm n), .map 3]], .mp false .i64 false has [.fptrs 4 bb], .fam false 136 .u8 ln dom g] => some [⟨none, some ((PM.mk has bb ln dom g).Inv n ∧ n ≤ 65536 ∧ 0 ≤ a ∧ a < n * 4096 ∧ 1 ≤ k ∧ k ≤ 4 ∧ a % 4096 + k ≤ 4096), .det (.val (.one (.int .u32 (.tm (le (PM.mk has bb ln dom g).at_ a k.toNat))))) ([.mem false [.cells [.int .i64 (.tm n), .map 3]], .mp false .i64 false has [.fptrs 4 bb], .fam false 136 .u8 ln dom g])⟩]
  | _, _ => none, true⟩
theorem getC_p0 (n : Int) (has : Int → Bool) (bb : Int → Nat) (ln : Nat → Nat) (dom : Nat → Bool) (g : Nat → Nat → Int) (a k : Int) (hn : (PM.mk has bb ln dom g).Inv n ∧ n ≤ 65536 ∧ 0 ≤ a ∧ a < n * 4096 ∧ 1 ≤ k ∧ k ≤ 4 ∧ a % 4096 + k ≤ 4096) : ∃ anns, fnVC Tryd.prog GTab (callOf Tryd.prog GTab []) anns Tryd.f50 ((Tryd.f50.body).getD .skip) [.val (.one (.ptr 2 0)), .val (.one (.int .u64 (.tm a))), .val (.one (.int .u64 (.tm k)))] [.mem false [.cells [.int .i64 (.tm n), .map 3]], .mp false .i64 false has [.fptrs 4 bb], .fam false 136 .u8 ln dom g] ⟨none, some ((PM.mk has bb ln dom g).Inv n ∧ n ≤ 65536 ∧ 0 ≤ a ∧ a < n * 4096 ∧ 1 ≤ k ∧ k ≤ 4 ∧ a % 4096 + k ≤ 4096), .det (.val (.one (.int .u32 (.tm (le (PM.mk has bb ln dom g).at_ a k.toNat))))) ([.mem false [.cells [.int .i64 (.tm n), .map 3]], .mp false .i64 false has [.fptrs 4 bb], .fam false 136 .u8 ln dom g])⟩ := by
  refine ⟨⟨[⟨Int, fun σ i => setT [(8, .val (.one (.int .u32 (.tm (le (PM.mk has bb ln dom g).at_ (a + i) (k - i).toNat))))), (9, .val (.one (.int .u64 (.tm (i)))))] σ, fun _ i => 0 ≤ i ∧ i ≤ k, fun i => i.toNat⟩], [], [], [], [], [], []⟩, ?_⟩
  rw [show fnVC Tryd.prog GTab (callOf Tryd.prog GTab []) ⟨[⟨Int, fun σ i => setT [(8, .val (.one (.int .u32 (.tm (le (PM.mk has bb ln dom g).at_ (a + i) (k - i).toNat))))), (9, .val (.one (.int .u64 (.tm (i)))))] σ, fun _ i => 0 ≤ i ∧ i ≤ k, fun i => i.toNat⟩], [], [], [], [], [], []⟩ Tryd.f50 ((Tryd.f50.body).getD .skip) [.val (.one (.ptr 2 0)), .val (.one (.int .u64 (.tm a))), .val (.one (.int .u64 (.tm k)))] [.mem false [.cells [.int .i64 (.tm n), .map 3]], .mp false .i64 false has [.fptrs 4 bb], .fam false 136 .u8 ln dom g] ⟨none, some ((PM.mk has bb ln dom g).Inv n ∧ n ≤ 65536 ∧ 0 ≤ a ∧ a < n * 4096 ∧ 1 ≤ k ∧ k ≤ 4 ∧ a % 4096 + k ≤ 4096), .det (.val (.one (.int .u32 (.tm (le (PM.mk has bb ln dom g).at_ a k.toNat))))) ([.mem false [.cells [.int .i64 (.tm n), .map 3]], .mp false .i64 false has [.fptrs 4 bb], .fam false 136 .u8 ln dom g])⟩ = ((has (IntKind.i64.wrap (IntKind.u64.wrap (a.tdiv (4096 : Int)))) = true → (∃ (x : Int), ((0 : Int) ≤ x ∧ x ≤ k) ∧ (a = a ∧ k = k ∧ (bb (IntKind.i64.wrap (IntKind.u64.wrap (a.tdiv (4096 : Int)))) = bb (IntKind.i64.wrap (IntKind.u64.wrap (a.tdiv (4096 : Int)))) ∧ (0 : Nat) = (0 : Nat)) ∧ (0 : Int) = le (PM.mk has bb ln dom g).at_ (a + x) (k - x).toNat ∧ k = x ∧ a = a ∧ IntKind.u64.wrap (a.tdiv (4096 : Int)) = IntKind.u64.wrap (a.tdiv (4096 : Int)) ∧ IntKind.i64.wrap (IntKind.u64.wrap (a.tdiv (4096 : Int))) = IntKind.i64.wrap (IntKind.u64.wrap (a.tdiv (4096 : Int))) ∧ (bb (IntKind.i64.wrap (IntKind.u64.wrap (a.tdiv (4096 : Int)))) = bb (IntKind.i64.wrap (IntKind.u64.wrap (a.tdiv (4096 : Int)))) ∧ (0 : Nat) = (0 : Nat)) ∧ (bb (IntKind.i64.wrap (IntKind.u64.wrap (a.tdiv (4096 : Int)))) = bb (IntKind.i64.wrap (IntKind.u64.wrap (a.tdiv (4096 : Int)))) ∧ (0 : Nat) = (0 : Nat)) ∧ k = k) ∧ n = n ∧ ((∀ (i : Int), has i = has i) ∧ ∀ (i : Int), has i = true → bb i = bb i) ∧ ∀ (b : Nat), dom b = true → dom b = true ∧ ln b = ln b ∧ ∀ (j : Nat), j < ln b → g b j = g b j) ∧ ∀ (x : Int), (0 : Int) ≤ x ∧ x ≤ k → (decide ((0 : Int) < x) = true → ((0 : Int) ≤ IntKind.u64.wrap (IntKind.u64.wrap (a.tmod (4096 : Int) + x) - (1 : Int)) ∧ IntKind.u64.wrap (IntKind.u64.wrap (a.tmod (4096 : Int) + x) - (1 : Int)) < (↑(4096 : Nat) : Int)) ∧ (dom (bb (IntKind.i64.wrap (IntKind.u64.wrap (a.tdiv (4096 : Int))))) = true ∧ (0 : Nat) + (IntKind.u64.wrap (IntKind.u64.wrap (a.tmod (4096 : Int) + x) - (1 : Int))).toNat < ln (bb (IntKind.i64.wrap (IntKind.u64.wrap (a.tdiv (4096 : Int)))))) ∧ ∃ (y : Int), ((0 : Int) ≤ y ∧ y ≤ k) ∧ y.toNat < x.toNat ∧ (a = a ∧ k = k ∧ (bb (IntKind.i64.wrap (IntKind.u64.wrap (a.tdiv (4096 : Int)))) = bb (IntKind.i64.wrap (IntKind.u64.wrap (a.tdiv (4096 : Int)))) ∧ (0 : Nat) = (0 : Nat)) ∧ bits BinOp.or IntKind.u32 (IntKind.u32.wrap (le (PM.mk has bb ln dom g).at_ (a + x) (k - x).toNat * (↑(256 : Nat) : Int))) (IntKind.u32.wrap (g (bb (IntKind.i64.wrap (IntKind.u64.wrap (a.tdiv (4096 : Int))))) ((0 : Nat) + (IntKind.u64.wrap (IntKind.u64.wrap (a.tmod (4096 : Int) + x) - (1 : Int))).toNat))) = le (PM.mk has bb ln dom g).at_ (a + y) (k - y).toNat ∧ IntKind.u64.wrap (x - (1 : Int)) = y ∧ a = a ∧ IntKind.u64.wrap (a.tdiv (4096 : Int)) = IntKind.u64.wrap (a.tdiv (4096 : Int)) ∧ IntKind.i64.wrap (IntKind.u64.wrap (a.tdiv (4096 : Int))) = IntKind.i64.wrap (IntKind.u64.wrap (a.tdiv (4096 : Int))) ∧ (bb (IntKind.i64.wrap (IntKind.u64.wrap (a.tdiv (4096 : Int)))) = bb (IntKind.i64.wrap (IntKind.u64.wrap (a.tdiv (4096 : Int)))) ∧ (0 : Nat) = (0 : Nat)) ∧ (bb (IntKind.i64.wrap (IntKind.u64.wrap (a.tdiv (4096 : Int)))) = bb (IntKind.i64.wrap (IntKind.u64.wrap (a.tdiv (4096 : Int)))) ∧ (0 : Nat) = (0 : Nat)) ∧ k = k) ∧ n = n ∧ ((∀ (i : Int), has i = has i) ∧ ∀ (i : Int), has i = true → bb i = bb i) ∧ ∀ (b : Nat), dom b = true → dom b = true ∧ ln b = ln b ∧ ∀ (j : Nat), j < ln b → g b j = g b j) ∧ (decide ((0 : Int) < x) = false → le (PM.mk has bb ln dom g).at_ (a + x) (k - x).toNat = le (PM.mk has bb ln dom g).at_ a k.toNat ∧ n = n ∧ ((∀ (i : Int), has i = has i) ∧ ∀ (i : Int), has i = true → bb i = bb i) ∧ ∀ (b : Nat), dom b = true → dom b = true ∧ ln b = ln b ∧ ∀ (j : Nat), j < ln b → g b j = g b j)) ∧ (has (IntKind.i64.wrap (IntKind.u64.wrap (a.tdiv (4096 : Int)))) = false → (0 : Int) = le (PM.mk has bb ln dom g).at_ a k.toNat ∧ n = n ∧ ((∀ (i : Int), has i = has i) ∧ ∀ (i : Int), has i = true → bb i = bb i) ∧ ∀ (b : Nat), dom b = true → dom b = true ∧ ln b = ln b ∧ ∀ (j : Nat), j < ln b → g b j = g b j)) from by kernel_rfl]
  obtain ⟨hI, hn2, h0, h1, h2, h3, h4⟩ := hn
  simp only [frame_of h0 (by omega), tmod_pos (b := 4096) h0, imp_self, implies_true, and_true, true_and, Nat.zero_add]
  refine ⟨fun hh => ⟨⟨k, ⟨by omega, Int.le_refl _⟩, by simp [le], rfl⟩, fun x hx => ⟨fun hx0 => ?_, fun hx0 => ?_⟩⟩, fun hh => ?_⟩
  · have hx0 : 0 < x := by simpa using hx0
    have e1 : IntKind.u64.wrap (IntKind.u64.wrap (a % 4096 + x) - 1) = a % 4096 + x - 1 := by
      rw [wrap_u64 (x := a % 4096 + x) (by omega) (by omega), wrap_u64 (by omega) (by omega)]
    rw [e1]
    refine ⟨⟨by omega, by omega⟩, ⟨(hI.key _ hh).2.2, by have := hI.ln (bb (a / 4096)); simp only at this; omega⟩, x - 1, ⟨by omega, by omega⟩, by omega, ?_, wrap_u64 (by omega) (by omega)⟩
    have hb := le_bd hI.bd (k - x).toNat (a + x)
    have hp := pow3 (c := (k - x).toNat) (by omega)
    have hat := PM.at_in (PM.mk has bb ln dom g) (a := a) (i := x - 1) (by omega) (by omega)
    have hbd := hI.bd (a + (x - 1))
    rw [le_step _ hx0 hx.2, hat] 
    rw [hat] at hbd
    simp only [hh, if_true, show a % 4096 + (x - 1) = a % 4096 + x - 1 by omega] at hbd ⊢
    exact or_shift hb.1 (by omega) hbd.1 hbd.2
  · have : x = 0 := by
      have : ¬ 0 < x := by simpa using hx0
      omega
    subst this
    simp
  · refine (le_zero _ _ fun b hb1 hb2 => ?_).symm
    have := PM.at_in (PM.mk has bb ln dom g) (a := a) (i := b - a) (by omega) (by omega)
    rw [show a + (b - a) = b by omega] at this
    rw [this, if_neg (by simp [hh])]
theorem getC_ch (n : Int) (has : Int → Bool) (bb : Int → Nat) (ln : Nat → Nat) (dom : Nat → Bool) (g : Nat → Nat → Int) (a k : Int) : ∃ r ∈ ([⟨none, some ((PM.mk has bb ln dom g).Inv n ∧ n ≤ 65536 ∧ 0 ≤ a ∧ a < n * 4096 ∧ 1 ≤ k ∧ k ≤ 4 ∧ a % 4096 + k ≤ 4096), .det (.val (.one (.int .u32 (.tm (le (PM.mk has bb ln dom g).at_ a k.toNat))))) ([.mem false [.cells [.int .i64 (.tm n), .map 3]], .mp false .i64 false has [.fptrs 4 bb], .fam false 136 .u8 ln dom g])⟩] : List Res), holdsP r.g ∧ (holdsP r.need → r.r.shaped [.mem false [.cells [.int .i64 (.tm n), .map 3]], .mp false .i64 false has [.fptrs 4 bb], .fam false 136 .u8 ln dom g] ∧ ∃ anns, fnVC Tryd.prog GTab (callOf Tryd.prog GTab []) anns Tryd.f50 ((Tryd.f50.body).getD .skip) [.val (.one (.ptr 2 0)), .val (.one (.int .u64 (.tm a))), .val (.one (.int .u64 (.tm k)))] [.mem false [.cells [.int .i64 (.tm n), .map 3]], .mp false .i64 false has [.fptrs 4 bb], .fam false 136 .u8 ln dom g] r) := by
  exact ⟨_, List.mem_cons_self, trivial, fun hn => ⟨trivial, getC_p0 n has bb ln dom g a k hn⟩⟩
theorem getC_ok : getC.ok Tryd.prog GTab := by
  refine con_ok (cs := []) (body := (Tryd.f50.body).getD .skip) ?_ Tryd.func50 rfl ?_
  · intro c h; cases h
  · intro args h l hl
    unfold getC at hl
    dsimp only at hl
    split at hl
    · cases hl
      exact getC_ch _ _ _ _ _ _ _ _
    · cases hl
noncomputable def setC : Con := ⟨40, fun args h => match args, h with
  | [.val (.one (.ptr 2 0)), .val (.one (.int .u64 (.tm a))), .val (.one (.int .u64 (.tm k))), .val (.one (.int .u32 (.tm v)))], [.mem true [.cells [.int .i64 (.tm n), .map 3]], .mp true .i64 false has [.fptrs 4 bb], .fam true 136 .u8 ln dom g] => some [⟨none, some ((PM.mk has bb ln dom g).Inv n ∧ n ≤ 65536 ∧ 0 ≤ a ∧ a < n * 4096 ∧ 1 ≤ k ∧ k ≤ 4 ∧ a % 4096 + k ≤ 4096 ∧ 0 ≤ v ∧ v ≤ 4294967295), .rel PM 3 (fun x => some (x.Inv n ∧ ∀ b, 0 ≤ b → x.at_ b = setF (PM.mk has bb ln dom g).at_ a k v b)) (fun x => .tup []) (fun x => [.mem true [.cells [.int .i64 (.tm n), .map 3]], .mp true .i64 false x.has [.fptrs 4 x.bb], .fam true 136 .u8 x.ln x.dom x.g])⟩]
  | _, _ => none, false⟩
theorem setC_p0 (n : Int) (has : Int → Bool) (bb : Int → Nat) (ln : Nat → Nat) (dom : Nat → Bool) (g : Nat → Nat → Int) (a k v : Int) (hn : (PM.mk has bb ln dom g).Inv n ∧ n ≤ 65536 ∧ 0 ≤ a ∧ a < n * 4096 ∧ 1 ≤ k ∧ k ≤ 4 ∧ a % 4096 + k ≤ 4096 ∧ 0 ≤ v ∧ v ≤ 4294967295) : ∃ anns, fnVC Tryd.prog GTab (callOf Tryd.prog GTab [ownC]) anns Tryd.f40 ((Tryd.f40.body).getD .skip) [.val (.one (.ptr 2 0)), .val (.one (.int .u64 (.tm a))), .val (.one (.int .u64 (.tm k))), .val (.one (.int .u32 (.tm v)))] [.mem true [.cells [.int .i64 (.tm n), .map 3]], .mp true .i64 false has [.fptrs 4 bb], .fam true 136 .u8 ln dom g] ⟨none, some ((PM.mk has bb ln dom g).Inv n ∧ n ≤ 65536 ∧ 0 ≤ a ∧ a < n * 4096 ∧ 1 ≤ k ∧ k ≤ 4 ∧ a % 4096 + k ≤ 4096 ∧ 0 ≤ v ∧ v ≤ 4294967295), .rel PM 3 (fun x => some (x.Inv n ∧ ∀ b, 0 ≤ b → x.at_ b = setF (PM.mk has bb ln dom g).at_ a k v b)) (fun x => .tup []) (fun x => [.mem true [.cells [.int .i64 (.tm n), .map 3]], .mp true .i64 false x.has [.fptrs 4 x.bb], .fam true 136 .u8 x.ln x.dom x.g])⟩ := by
  refine ⟨⟨[⟨PM × Int, fun σ x => setM [(2, .mem true [.cells [.int .i64 (.tm n), .map 3]]), (3, .mp true .i64 false x.1.has [.fptrs 4 x.1.bb]), (4, .fam true 136 .u8 x.1.ln x.1.dom x.1.g)] (setT [(3, .val (.one (.int .u32 (.tm (v / 256 ^ x.2.toNat))))), (8, .val (.one (.fptr 4 (x.1.bb (a / 4096)) 0))), (9, .val (.one .junk)), (13, .val (.one (.int .u64 (.tm (k))))), (14, .val (.one (.int .u64 (.tm (x.2)))))] σ), fun _ x => x.1.Inv n ∧ x.1.has (a / 4096) = true ∧ 0 ≤ x.2 ∧ x.2 ≤ k ∧ ∀ b, 0 ≤ b → x.1.at_ b = setF (PM.mk has bb ln dom g).at_ a x.2 v b, fun x => (k - x.2).toNat⟩], [], [], [], [], [], []⟩, ?_⟩
  rw [show fnVC Tryd.prog GTab (callOf Tryd.prog GTab [ownC]) ⟨[⟨PM × Int, fun σ x => setM [(2, .mem true [.cells [.int .i64 (.tm n), .map 3]]), (3, .mp true .i64 false x.1.has [.fptrs 4 x.1.bb]), (4, .fam true 136 .u8 x.1.ln x.1.dom x.1.g)] (setT [(3, .val (.one (.int .u32 (.tm (v / 256 ^ x.2.toNat))))), (8, .val (.one (.fptr 4 (x.1.bb (a / 4096)) 0))), (9, .val (.one .junk)), (13, .val (.one (.int .u64 (.tm (k))))), (14, .val (.one (.int .u64 (.tm (x.2)))))] σ), fun _ x => x.1.Inv n ∧ x.1.has (a / 4096) = true ∧ 0 ≤ x.2 ∧ x.2 ≤ k ∧ ∀ b, 0 ≤ b → x.1.at_ b = setF (PM.mk has bb ln dom g).at_ a x.2 v b, fun x => (k - x.2).toNat⟩], [], [], [], [], [], []⟩ Tryd.f40 ((Tryd.f40.body).getD .skip) [.val (.one (.ptr 2 0)), .val (.one (.int .u64 (.tm a))), .val (.one (.int .u64 (.tm k))), .val (.one (.int .u32 (.tm v)))] [.mem true [.cells [.int .i64 (.tm n), .map 3]], .mp true .i64 false has [.fptrs 4 bb], .fam true 136 .u8 ln dom g] ⟨none, some ((PM.mk has bb ln dom g).Inv n ∧ n ≤ 65536 ∧ 0 ≤ a ∧ a < n * 4096 ∧ 1 ≤ k ∧ k ≤ 4 ∧ a % 4096 + k ≤ 4096 ∧ 0 ≤ v ∧ v ≤ 4294967295), .rel PM 3 (fun x => some (x.Inv n ∧ ∀ b, 0 ≤ b → x.at_ b = setF (PM.mk has bb ln dom g).at_ a k v b)) (fun x => .tup []) (fun x => [.mem true [.cells [.int .i64 (.tm n), .map 3]], .mp true .i64 false x.has [.fptrs 4 x.bb], .fam true 136 .u8 x.ln x.dom x.g])⟩ = (((0 : Int) ≤ a ∧ a < n * (4096 : Int) ∧ n ≤ (65536 : Int) ∧ PM.Inv n (PM.mk has bb ln dom g)) ∧ ∀ (x : PM), (PM.Inv n x ∧ x.has (a / (4096 : Int)) = true ∧ ∀ (b : Int), (0 : Int) ≤ b → x.at_ b = (PM.mk has bb ln dom g).at_ b) → (∃ (x_1 : PM × Int), (PM.Inv n x_1.fst ∧ x_1.fst.has (a / (4096 : Int)) = true ∧ (0 : Int) ≤ x_1.snd ∧ x_1.snd ≤ k ∧ ∀ (b : Int), (0 : Int) ≤ b → x_1.fst.at_ b = setF (PM.mk has bb ln dom g).at_ a x_1.snd v b) ∧ (a = a ∧ k = k ∧ v = v / (256 : Int) ^ x_1.snd.toNat ∧ (x.bb (a / (4096 : Int)) = x_1.fst.bb (a / (4096 : Int)) ∧ (0 : Nat) = (0 : Nat)) ∧ a = a ∧ (x.bb (a / (4096 : Int)) = x.bb (a / (4096 : Int)) ∧ (0 : Nat) = (0 : Nat)) ∧ k = k ∧ (0 : Int) = x_1.snd) ∧ n = n ∧ ((∀ (i : Int), x.has i = x_1.fst.has i) ∧ ∀ (i : Int), x.has i = true → x.bb i = x_1.fst.bb i) ∧ ∀ (b : Nat), x_1.fst.dom b = true → x.dom b = true ∧ x_1.fst.ln b = x.ln b ∧ ∀ (j : Nat), j < x_1.fst.ln b → x.g b j = x_1.fst.g b j) ∧ ∀ (x_1 : PM × Int), (PM.Inv n x_1.fst ∧ x_1.fst.has (a / (4096 : Int)) = true ∧ (0 : Int) ≤ x_1.snd ∧ x_1.snd ≤ k ∧ ∀ (b : Int), (0 : Int) ≤ b → x_1.fst.at_ b = setF (PM.mk has bb ln dom g).at_ a x_1.snd v b) → (decide (x_1.snd < k) = true → ((0 : Int) ≤ IntKind.u64.wrap (a.tmod (4096 : Int) + x_1.snd) ∧ IntKind.u64.wrap (a.tmod (4096 : Int) + x_1.snd) < (↑(4096 : Nat) : Int)) ∧ (x_1.fst.dom (x_1.fst.bb (a / (4096 : Int))) = true ∧ (0 : Nat) + (IntKind.u64.wrap (a.tmod (4096 : Int) + x_1.snd)).toNat < x_1.fst.ln (x_1.fst.bb (a / (4096 : Int)))) ∧ ∃ (y : PM × Int), (PM.Inv n y.fst ∧ y.fst.has (a / (4096 : Int)) = true ∧ (0 : Int) ≤ y.snd ∧ y.snd ≤ k ∧ ∀ (b : Int), (0 : Int) ≤ b → y.fst.at_ b = setF (PM.mk has bb ln dom g).at_ a y.snd v b) ∧ (k - y.snd).toNat < (k - x_1.snd).toNat ∧ (a = a ∧ k = k ∧ v / (256 : Int) ^ x_1.snd.toNat / (↑(256 : Nat) : Int) = v / (256 : Int) ^ y.snd.toNat ∧ (x_1.fst.bb (a / (4096 : Int)) = y.fst.bb (a / (4096 : Int)) ∧ (0 : Nat) = (0 : Nat)) ∧ a = a ∧ (x.bb (a / (4096 : Int)) = x.bb (a / (4096 : Int)) ∧ (0 : Nat) = (0 : Nat)) ∧ k = k ∧ IntKind.u64.wrap (x_1.snd + (1 : Int)) = y.snd) ∧ n = n ∧ ((∀ (i : Int), x_1.fst.has i = y.fst.has i) ∧ ∀ (i : Int), x_1.fst.has i = true → x_1.fst.bb i = y.fst.bb i) ∧ ∀ (b : Nat), y.fst.dom b = true → x_1.fst.dom b = true ∧ y.fst.ln b = x_1.fst.ln b ∧ ∀ (j : Nat), j < y.fst.ln b → putB x_1.fst.g (x_1.fst.bb (a / (4096 : Int))) ((0 : Nat) + (IntKind.u64.wrap (a.tmod (4096 : Int) + x_1.snd)).toNat) (IntKind.u8.wrap (v / (256 : Int) ^ x_1.snd.toNat)) b j = y.fst.g b j) ∧ (decide (x_1.snd < k) = false → ∃ (x : PM), (PM.Inv n x ∧ ∀ (b : Int), (0 : Int) ≤ b → x.at_ b = setF (PM.mk has bb ln dom g).at_ a k v b) ∧ n = n ∧ ((∀ (i : Int), x_1.fst.has i = x.has i) ∧ ∀ (i : Int), x_1.fst.has i = true → x_1.fst.bb i = x.bb i) ∧ ∀ (b : Nat), x.dom b = true → x_1.fst.dom b = true ∧ x.ln b = x_1.fst.ln b ∧ ∀ (j : Nat), j < x.ln b → x_1.fst.g b j = x.g b j)) from by kernel_rfl]
  obtain ⟨hI, hn2, h0, h1, h2, h3, h4, h5, h6⟩ := hn
  simp only [tmod_pos (b := 4096) h0, implies_true, and_true, true_and, Nat.zero_add]
  refine ⟨⟨h0, h1, hn2, hI⟩, fun x hx => ⟨⟨(x, 0), ⟨hx.1, hx.2.1, Int.le_refl _, by omega, fun b hb => by rw [setF_zero]; exact hx.2.2 b hb⟩, by simp⟩, fun y hy => ⟨fun hlt => ?_, fun hge => ?_⟩⟩⟩
  · obtain ⟨y1, y2, y3, y4, y5⟩ := hy
    have hlt : y.2 < k := by simpa using hlt
    have e1 : IntKind.u64.wrap (a % 4096 + y.2) = a % 4096 + y.2 := wrap_u64 (by omega) (by omega)
    rw [e1, wrap_u8]
    obtain ⟨s1, s2⟩ := set_step (w := v / 256 ^ y.2.toNat % 256) y1 y2 y3 (by omega) (Int.emod_nonneg _ (by decide)) (Int.emod_lt_of_pos _ (by decide))
    refine ⟨⟨by omega, by omega⟩, ⟨(y1.key _ y2).2.2, by rw [y1.ln]; omega⟩, (_, y.2 + 1), ⟨s1, y2, by omega, by omega, fun b hb => ?_⟩, by omega, ?_⟩
    · rw [s2, setF_step _ _ _ _ _ y3, y5 b hb]
    · rw [show (y.2 + 1).toNat = y.2.toNat + 1 by omega]
      simp only [implies_true, and_true, true_and]
      exact ⟨⟨div_pow v y.2.toNat, wrap_u64 (by omega) (by omega)⟩, fun b hb => hb⟩
  · obtain ⟨y1, y2, y3, y4, y5⟩ := hy
    have hge : ¬ y.2 < k := by simpa using hge
    have : y.2 = k := by omega
    rw [this] at y5
    exact ⟨y.1, ⟨y1, y5⟩, by simp⟩
theorem setC_ch (n : Int) (has : Int → Bool) (bb : Int → Nat) (ln : Nat → Nat) (dom : Nat → Bool) (g : Nat → Nat → Int) (a k v : Int) : ∃ r ∈ ([⟨none, some ((PM.mk has bb ln dom g).Inv n ∧ n ≤ 65536 ∧ 0 ≤ a ∧ a < n * 4096 ∧ 1 ≤ k ∧ k ≤ 4 ∧ a % 4096 + k ≤ 4096 ∧ 0 ≤ v ∧ v ≤ 4294967295), .rel PM 3 (fun x => some (x.Inv n ∧ ∀ b, 0 ≤ b → x.at_ b = setF (PM.mk has bb ln dom g).at_ a k v b)) (fun x => .tup []) (fun x => [.mem true [.cells [.int .i64 (.tm n), .map 3]], .mp true .i64 false x.has [.fptrs 4 x.bb], .fam true 136 .u8 x.ln x.dom x.g])⟩] : List Res), holdsP r.g ∧ (holdsP r.need → r.r.shaped [.mem true [.cells [.int .i64 (.tm n), .map 3]], .mp true .i64 false has [.fptrs 4 bb], .fam true 136 .u8 ln dom g] ∧ ∃ anns, fnVC Tryd.prog GTab (callOf Tryd.prog GTab [ownC]) anns Tryd.f40 ((Tryd.f40.body).getD .skip) [.val (.one (.ptr 2 0)), .val (.one (.int .u64 (.tm a))), .val (.one (.int .u64 (.tm k))), .val (.one (.int .u32 (.tm v)))] [.mem true [.cells [.int .i64 (.tm n), .map 3]], .mp true .i64 false has [.fptrs 4 bb], .fam true 136 .u8 ln dom g] r) := by
  exact ⟨_, List.mem_cons_self, trivial, fun hn => ⟨fun x _ => rfl, setC_p0 n has bb ln dom g a k v hn⟩⟩
theorem setC_ok : setC.ok Tryd.prog GTab := by
  refine con_ok (cs := [ownC]) (body := (Tryd.f40.body).getD .skip) ?_ Tryd.func40 rfl ?_
  · intro c h
    simp only [List.mem_cons, List.not_mem_nil, or_false] at h
    rcases h with rfl
    · exact ownC_ok
  · intro args h l hl
    unfold setC at hl
    dsimp only at hl
    split at hl
    · cases hl
      exact setC_ch _ _ _ _ _ _ _ _ _
    · cases hl
noncomputable def wordC : Con := ⟨28, fun args h => match args, h with
  | [.val (.one (.ptr 2 0)), .val (.one (.int .u64 (.tm a)))], [.mem false [.cells [.int .i64 (.tm n), .map 3]], .mp false .i64 false has [.fptrs 4 bb], .fam false 136 .u8 ln dom g] => some [⟨none, some ((PM.mk has bb ln dom g).Inv n ∧ n ≤ 65536 ∧ 0 ≤ n ∧ 0 ≤ a), .det (.tup [.one (.int .u32 (.tm (if err n a 4 = 0 then le (PM.mk has bb ln dom g).at_ a 4 else 0))), .one (.int .i64 (.tm (err n a 4)))]) ([.mem false [.cells [.int .i64 (.tm n), .map 3]], .mp false .i64 false has [.fptrs 4 bb], .fam false 136 .u8 ln dom g])⟩]
  | _, _ => none, true⟩
theorem wordC_p0 (n : Int) (has : Int → Bool) (bb : Int → Nat) (ln : Nat → Nat) (dom : Nat → Bool) (g : Nat → Nat → Int) (a : Int) (hn : (PM.mk has bb ln dom g).Inv n ∧ n ≤ 65536 ∧ 0 ≤ n ∧ 0 ≤ a) : ∃ anns, fnVC Tryd.prog GTab (callOf Tryd.prog GTab [checkC, getC]) anns Tryd.f28 ((Tryd.f28.body).getD .skip) [.val (.one (.ptr 2 0)), .val (.one (.int .u64 (.tm a)))] [.mem false [.cells [.int .i64 (.tm n), .map 3]], .mp false .i64 false has [.fptrs 4 bb], .fam false 136 .u8 ln dom g] ⟨none, some ((PM.mk has bb ln dom g).Inv n ∧ n ≤ 65536 ∧ 0 ≤ n ∧ 0 ≤ a), .det (.tup [.one (.int .u32 (.tm (if err n a 4 = 0 then le (PM.mk has bb ln dom g).at_ a 4 else 0))), .one (.int .i64 (.tm (err n a 4)))]) ([.mem false [.cells [.int .i64 (.tm n), .map 3]], .mp false .i64 false has [.fptrs 4 bb], .fam false 136 .u8 ln dom g])⟩ := by
  refine ⟨⟨[], [], [], [], [], [], []⟩, ?_⟩
  rw [show fnVC Tryd.prog GTab (callOf Tryd.prog GTab [checkC, getC]) ⟨[], [], [], [], [], [], []⟩ Tryd.f28 ((Tryd.f28.body).getD .skip) [.val (.one (.ptr 2 0)), .val (.one (.int .u64 (.tm a)))] [.mem false [.cells [.int .i64 (.tm n), .map 3]], .mp false .i64 false has [.fptrs 4 bb], .fam false 136 .u8 ln dom g] ⟨none, some ((PM.mk has bb ln dom g).Inv n ∧ n ≤ 65536 ∧ 0 ≤ n ∧ 0 ≤ a), .det (.tup [.one (.int .u32 (.tm (if err n a 4 = 0 then le (PM.mk has bb ln dom g).at_ a 4 else 0))), .one (.int .i64 (.tm (err n a 4)))]) ([.mem false [.cells [.int .i64 (.tm n), .map 3]], .mp false .i64 false has [.fptrs 4 bb], .fam false 136 .u8 ln dom g])⟩ = (((0 : Int) ≤ n ∧ n ≤ (65536 : Int) ∧ (0 : Int) < (4 : Int) ∧ (0 : Int) ≤ a) ∧ ((!decide (err n a (4 : Int) = (0 : Int))) = true → (((0 : Int) = if err n a (4 : Int) = (0 : Int) then le (PM.mk has bb ln dom g).at_ a (4 : Nat) else (0 : Int)) ∧ err n a (4 : Int) = err n a (4 : Int)) ∧ n = n ∧ ((∀ (i : Int), has i = has i) ∧ ∀ (i : Int), has i = true → bb i = bb i) ∧ ∀ (b : Nat), dom b = true → dom b = true ∧ ln b = ln b ∧ ∀ (j : Nat), j < ln b → g b j = g b j) ∧ ((!decide (err n a (4 : Int) = (0 : Int))) = false → (PM.Inv n (PM.mk has bb ln dom g) ∧ n ≤ (65536 : Int) ∧ (0 : Int) ≤ a ∧ a < n * (4096 : Int) ∧ (1 : Int) ≤ (4 : Int) ∧ (4 : Int) ≤ (4 : Int) ∧ a % (4096 : Int) + (4 : Int) ≤ (4096 : Int)) ∧ ((le (PM.mk has bb ln dom g).at_ a (4 : Nat) = if err n a (4 : Int) = (0 : Int) then le (PM.mk has bb ln dom g).at_ a (4 : Nat) else (0 : Int)) ∧ (0 : Int) = err n a (4 : Int)) ∧ n = n ∧ ((∀ (i : Int), has i = has i) ∧ ∀ (i : Int), has i = true → bb i = bb i) ∧ ∀ (b : Nat), dom b = true → dom b = true ∧ ln b = ln b ∧ ∀ (j : Nat), j < ln b → g b j = g b j)) from by kernel_rfl]
  obtain ⟨hI, hn2, hn0, h0⟩ := hn
  simp only [implies_true, and_true, true_and]
  refine ⟨⟨hn0, hn2, by omega, h0⟩, fun he => ?_, fun he => ?_⟩
  · have he : ¬ err n a 4 = 0 := by simpa using he
    simp [he]
  · have he : err n a 4 = 0 := by simpa using he
    obtain ⟨h1, h2⟩ := err_ok he
    refine ⟨⟨hI, hn2, h0, h2, by omega, by omega, by omega⟩, ?_⟩
    simp only [he, if_true, and_true, true_and, implies_true, imp_self]
    try rfl
theorem wordC_ch (n : Int) (has : Int → Bool) (bb : Int → Nat) (ln : Nat → Nat) (dom : Nat → Bool) (g : Nat → Nat → Int) (a : Int) : ∃ r ∈ ([⟨none, some ((PM.mk has bb ln dom g).Inv n ∧ n ≤ 65536 ∧ 0 ≤ n ∧ 0 ≤ a), .det (.tup [.one (.int .u32 (.tm (if err n a 4 = 0 then le (PM.mk has bb ln dom g).at_ a 4 else 0))), .one (.int .i64 (.tm (err n a 4)))]) ([.mem false [.cells [.int .i64 (.tm n), .map 3]], .mp false .i64 false has [.fptrs 4 bb], .fam false 136 .u8 ln dom g])⟩] : List Res), holdsP r.g ∧ (holdsP r.need → r.r.shaped [.mem false [.cells [.int .i64 (.tm n), .map 3]], .mp false .i64 false has [.fptrs 4 bb], .fam false 136 .u8 ln dom g] ∧ ∃ anns, fnVC Tryd.prog GTab (callOf Tryd.prog GTab [checkC, getC]) anns Tryd.f28 ((Tryd.f28.body).getD .skip) [.val (.one (.ptr 2 0)), .val (.one (.int .u64 (.tm a)))] [.mem false [.cells [.int .i64 (.tm n), .map 3]], .mp false .i64 false has [.fptrs 4 bb], .fam false 136 .u8 ln dom g] r) := by
  exact ⟨_, List.mem_cons_self, trivial, fun hn => ⟨trivial, wordC_p0 n has bb ln dom g a hn⟩⟩
theorem wordC_ok : wordC.ok Tryd.prog GTab := by
  refine con_ok (cs := [checkC, getC]) (body := (Tryd.f28.body).getD .skip) ?_ Tryd.func28 rfl ?_
  · intro c h
    simp only [List.mem_cons, List.not_mem_nil, or_false] at h
    rcases h with rfl | rfl
    · exact checkC_ok
    · exact getC_ok
  · intro args h l hl
    unfold wordC at hl
    dsimp only at hl
    split at hl
    · cases hl
      exact wordC_ch _ _ _ _ _ _ _
    · cases hl
noncomputable def setWordC : Con := ⟨20, fun args h => match args, h with
  | [.val (.one (.ptr 2 0)), .val (.one (.int .u64 (.tm a))), .val (.one (.int .u32 (.tm v)))], [.mem true [.cells [.int .i64 (.tm n), .map 3]], .mp true .i64 false has [.fptrs 4 bb], .fam true 136 .u8 ln dom g] => some [⟨none, some ((PM.mk has bb ln dom g).Inv n ∧ n ≤ 65536 ∧ 0 ≤ n ∧ 0 ≤ a ∧ 0 ≤ v ∧ v ≤ 4294967295), .rel PM 3 (fun x => some (x.Inv n ∧ ∀ b, 0 ≤ b → x.at_ b = wrA n (PM.mk has bb ln dom g).at_ a 4 v b)) (fun x => .val (.one (.int .i64 (.tm (err n a 4))))) (fun x => [.mem true [.cells [.int .i64 (.tm n), .map 3]], .mp true .i64 false x.has [.fptrs 4 x.bb], .fam true 136 .u8 x.ln x.dom x.g])⟩]
  | _, _ => none, false⟩
theorem setWordC_p0 (n : Int) (has : Int → Bool) (bb : Int → Nat) (ln : Nat → Nat) (dom : Nat → Bool) (g : Nat → Nat → Int) (a v : Int) (hn : (PM.mk has bb ln dom g).Inv n ∧ n ≤ 65536 ∧ 0 ≤ n ∧ 0 ≤ a ∧ 0 ≤ v ∧ v ≤ 4294967295) : ∃ anns, fnVC Tryd.prog GTab (callOf Tryd.prog GTab [checkC, setC]) anns Tryd.f20 ((Tryd.f20.body).getD .skip) [.val (.one (.ptr 2 0)), .val (.one (.int .u64 (.tm a))), .val (.one (.int .u32 (.tm v)))] [.mem true [.cells [.int .i64 (.tm n), .map 3]], .mp true .i64 false has [.fptrs 4 bb], .fam true 136 .u8 ln dom g] ⟨none, some ((PM.mk has bb ln dom g).Inv n ∧ n ≤ 65536 ∧ 0 ≤ n ∧ 0 ≤ a ∧ 0 ≤ v ∧ v ≤ 4294967295), .rel PM 3 (fun x => some (x.Inv n ∧ ∀ b, 0 ≤ b → x.at_ b = wrA n (PM.mk has bb ln dom g).at_ a 4 v b)) (fun x => .val (.one (.int .i64 (.tm (err n a 4))))) (fun x => [.mem true [.cells [.int .i64 (.tm n), .map 3]], .mp true .i64 false x.has [.fptrs 4 x.bb], .fam true 136 .u8 x.ln x.dom x.g])⟩ := by
  refine ⟨⟨[], [], [], [], [], [], []⟩, ?_⟩
  rw [show fnVC Tryd.prog GTab (callOf Tryd.prog GTab [checkC, setC]) ⟨[], [], [], [], [], [], []⟩ Tryd.f20 ((Tryd.f20.body).getD .skip) [.val (.one (.ptr 2 0)), .val (.one (.int .u64 (.tm a))), .val (.one (.int .u32 (.tm v)))] [.mem true [.cells [.int .i64 (.tm n), .map 3]], .mp true .i64 false has [.fptrs 4 bb], .fam true 136 .u8 ln dom g] ⟨none, some ((PM.mk has bb ln dom g).Inv n ∧ n ≤ 65536 ∧ 0 ≤ n ∧ 0 ≤ a ∧ 0 ≤ v ∧ v ≤ 4294967295), .rel PM 3 (fun x => some (x.Inv n ∧ ∀ b, 0 ≤ b → x.at_ b = wrA n (PM.mk has bb ln dom g).at_ a 4 v b)) (fun x => .val (.one (.int .i64 (.tm (err n a 4))))) (fun x => [.mem true [.cells [.int .i64 (.tm n), .map 3]], .mp true .i64 false x.has [.fptrs 4 x.bb], .fam true 136 .u8 x.ln x.dom x.g])⟩ = (((0 : Int) ≤ n ∧ n ≤ (65536 : Int) ∧ (0 : Int) < (4 : Int) ∧ (0 : Int) ≤ a) ∧ (decide (err n a (4 : Int) = (0 : Int)) = true → (PM.Inv n (PM.mk has bb ln dom g) ∧ n ≤ (65536 : Int) ∧ (0 : Int) ≤ a ∧ a < n * (4096 : Int) ∧ (1 : Int) ≤ (4 : Int) ∧ (4 : Int) ≤ (4 : Int) ∧ a % (4096 : Int) + (4 : Int) ≤ (4096 : Int) ∧ (0 : Int) ≤ v ∧ v ≤ (4294967295 : Int)) ∧ ∀ (x : PM), (PM.Inv n x ∧ ∀ (b : Int), (0 : Int) ≤ b → x.at_ b = setF (PM.mk has bb ln dom g).at_ a (4 : Int) v b) → ∃ (x_1 : PM), (PM.Inv n x_1 ∧ ∀ (b : Int), (0 : Int) ≤ b → x_1.at_ b = wrA n (PM.mk has bb ln dom g).at_ a (4 : Int) v b) ∧ err n a (4 : Int) = err n a (4 : Int) ∧ n = n ∧ ((∀ (i : Int), x.has i = x_1.has i) ∧ ∀ (i : Int), x.has i = true → x.bb i = x_1.bb i) ∧ ∀ (b : Nat), x_1.dom b = true → x.dom b = true ∧ x_1.ln b = x.ln b ∧ ∀ (j : Nat), j < x_1.ln b → x.g b j = x_1.g b j) ∧ (decide (err n a (4 : Int) = (0 : Int)) = false → ∃ (x : PM), (PM.Inv n x ∧ ∀ (b : Int), (0 : Int) ≤ b → x.at_ b = wrA n (PM.mk has bb ln dom g).at_ a (4 : Int) v b) ∧ err n a (4 : Int) = err n a (4 : Int) ∧ n = n ∧ ((∀ (i : Int), has i = x.has i) ∧ ∀ (i : Int), has i = true → bb i = x.bb i) ∧ ∀ (b : Nat), x.dom b = true → dom b = true ∧ x.ln b = ln b ∧ ∀ (j : Nat), j < x.ln b → g b j = x.g b j)) from by kernel_rfl]
  obtain ⟨hI, hn2, hn0, h0, hv0, hv1⟩ := hn
  refine ⟨⟨hn0, hn2, by omega, h0⟩, fun he => ?_, fun he => ?_⟩
  · have he : err n a 4 = 0 := by simpa using he
    obtain ⟨h1, h2⟩ := err_ok he
    refine ⟨⟨hI, hn2, h0, h2, by omega, by omega, by omega, by omega, by omega⟩, fun x hx => ⟨x, ⟨hx.1, fun b hb => ?_⟩, by simp⟩⟩
    rw [hx.2 b hb, wrA, if_pos he]
  · have he : ¬ err n a 4 = 0 := by simpa using he
    exact ⟨PM.mk has bb ln dom g, ⟨hI, fun b hb => by rw [wrA, if_neg he]⟩, by simp⟩
theorem setWordC_ch (n : Int) (has : Int → Bool) (bb : Int → Nat) (ln : Nat → Nat) (dom : Nat → Bool) (g : Nat → Nat → Int) (a v : Int) : ∃ r ∈ ([⟨none, some ((PM.mk has bb ln dom g).Inv n ∧ n ≤ 65536 ∧ 0 ≤ n ∧ 0 ≤ a ∧ 0 ≤ v ∧ v ≤ 4294967295), .rel PM 3 (fun x => some (x.Inv n ∧ ∀ b, 0 ≤ b → x.at_ b = wrA n (PM.mk has bb ln dom g).at_ a 4 v b)) (fun x => .val (.one (.int .i64 (.tm (err n a 4))))) (fun x => [.mem true [.cells [.int .i64 (.tm n), .map 3]], .mp true .i64 false x.has [.fptrs 4 x.bb], .fam true 136 .u8 x.ln x.dom x.g])⟩] : List Res), holdsP r.g ∧ (holdsP r.need → r.r.shaped [.mem true [.cells [.int .i64 (.tm n), .map 3]], .mp true .i64 false has [.fptrs 4 bb], .fam true 136 .u8 ln dom g] ∧ ∃ anns, fnVC Tryd.prog GTab (callOf Tryd.prog GTab [checkC, setC]) anns Tryd.f20 ((Tryd.f20.body).getD .skip) [.val (.one (.ptr 2 0)), .val (.one (.int .u64 (.tm a))), .val (.one (.int .u32 (.tm v)))] [.mem true [.cells [.int .i64 (.tm n), .map 3]], .mp true .i64 false has [.fptrs 4 bb], .fam true 136 .u8 ln dom g] r) := by
  exact ⟨_, List.mem_cons_self, trivial, fun hn => ⟨fun x _ => rfl, setWordC_p0 n has bb ln dom g a v hn⟩⟩
theorem setWordC_ok : setWordC.ok Tryd.prog GTab := by
  refine con_ok (cs := [checkC, setC]) (body := (Tryd.f20.body).getD .skip) ?_ Tryd.func20 rfl ?_
  · intro c h
    simp only [List.mem_cons, List.not_mem_nil, or_false] at h
    rcases h with rfl | rfl
    · exact checkC_ok
    · exact setC_ok
  · intro args h l hl
    unfold setWordC at hl
    dsimp only at hl
    split at hl
    · cases hl
      exact setWordC_ch _ _ _ _ _ _ _ _
    · cases hl
end Go.Proofs.YtpdijogpbnaplaaDoor.con
