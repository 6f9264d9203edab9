/- What a block's bits allow, the fault of an access, and what a user may do with a block: of the program and of the document. -/
import Derived.Test.YtceehnhfahbjiaaDoorHzThree
import Derived.Test.YtceehnhfahbjiaaDoorProg
import Derived.KernelRfl
namespace Go.Proofs.YtceehnhfahbjiaaDoor.con
open Go Go.Proofs.YtceehnhfahbjiaaDoorHz
set_option maxRecDepth 100000
set_option maxHeartbeats 4000000
noncomputable def GTab : List (Nat × List L) := [(0, [.int .u64 (.lit 0), .int .u64 (.lit 12), .int .u64 (.lit 16), .int .u64 (.lit 20), .int .u64 (.lit 24)]), (1, [.int .i64 (.lit 0), .int .i64 (.lit 0), .int .i64 (.lit 0), .int .i64 (.lit 3), .int .i64 (.lit 1), .int .i64 (.lit 3), .int .i64 (.lit 3), .int .i64 (.lit 3), .int .i64 (.lit 0), .int .i64 (.lit 0), .int .i64 (.lit 0), .int .i64 (.lit 1), .int .i64 (.lit 1), .int .i64 (.lit 1), .int .i64 (.lit 1), .int .i64 (.lit 1)]), (2, [.int .i64 (.lit 0), .int .i64 (.lit 3), .int .i64 (.lit 3), .int .i64 (.lit 3), .int .i64 (.lit 0), .int .i64 (.lit 1), .int .i64 (.lit 1), .int .i64 (.lit 1)])]
structure PM where
  has : Int → Bool
  bb : Int → Nat
  ln : Nat → Nat
  dom : Nat → Bool
  g : Nat → Nat → Int
structure PM.Inv (n : Int) (m : PM) : Prop where
  ln : ∀ b, m.ln b = 4096
  key : ∀ k, m.has k = true → 0 ≤ k ∧ k < n ∧ m.dom (m.bb k) = true
  inj : ∀ k k', m.has k = true → m.has k' = true → m.bb k = m.bb k' → k = k'
  byte : ∀ b j, m.dom b = true → j < 4096 → 0 ≤ m.g b j ∧ m.g b j < 256
/-- the byte at a place -/
def PM.at_ (m : PM) (a : Int) : Int := if m.has (a / 4096) = true then m.g (m.bb (a / 4096)) (a % 4096).toNat else 0
/-- so many bytes of a number written from a place on, the lowest first -/
def setF (f : Int → Int) (a k v : Int) : Int → Int := fun b => if a ≤ b ∧ b < a + k then v / 256 ^ (b - a).toNat % 256 else f b
/-- so many bytes from a place on, the lowest first -/
def le (f : Int → Int) (a : Int) : Nat → Int
  | 0 => 0
  | c + 1 => f a + 256 * le f (a + 1) c
theorem wrap_i64 {x : Int} (h1 : -9223372036854775808 ≤ x) (h2 : x ≤ 9223372036854775807) : IntKind.i64.wrap x = x := by
  simp only [IntKind.wrap, IntKind.bits, IntKind.signed]; simp; omega
theorem wrap_u64 {x : Int} (h1 : 0 ≤ x) (h2 : x ≤ 18446744073709551615) : IntKind.u64.wrap x = x := by
  simp only [IntKind.wrap, IntKind.bits, IntKind.signed]; simp; omega
theorem wrap_u32 {x : Int} (h1 : 0 ≤ x) (h2 : x ≤ 4294967295) : IntKind.u32.wrap x = x := by
  simp only [IntKind.wrap, IntKind.bits, IntKind.signed]; simp; omega
theorem wrap_u8 (x : Int) : IntKind.u8.wrap x = x % 256 := by
  simp only [IntKind.wrap, IntKind.bits, IntKind.signed]; simp
theorem tdiv_pos {a b : Int} (h : 0 ≤ a) : a.tdiv b = a / b := Int.tdiv_eq_ediv_of_nonneg h
theorem tmod_pos {a b : Int} (h : 0 ≤ a) : a.tmod b = a % b := Int.tmod_eq_emod_of_nonneg h
theorem frame_of {a : Int} (h0 : 0 ≤ a) (h1 : a ≤ 9223372036854775807) : IntKind.i64.wrap (IntKind.u64.wrap (a.tdiv 4096)) = a / 4096 := by
  rw [tdiv_pos h0, wrap_u64 (by omega) (by omega), wrap_i64 (by omega) (by omega)]
theorem own_new {n : Int} {m : PM} {a : Int} (hI : m.Inv n) (h0 : 0 ≤ a) (h1 : a < n * 4096) (hno : m.has (a / 4096) = false) {b : Nat} (hb : m.dom b = false) :
    (PM.mk (putK m.has (a / 4096) true) (putK m.bb (a / 4096) b) m.ln (putD m.dom b) (putBlk m.g b fun _ => 0)).Inv n ∧ ∀ c, 0 ≤ c → (PM.mk (putK m.has (a / 4096) true) (putK m.bb (a / 4096) b) m.ln (putD m.dom b) (putBlk m.g b fun _ => 0)).at_ c = m.at_ c := by
  have hne : ∀ k, m.has k = true → m.bb k ≠ b := fun k hk e => by
    have := (hI.key k hk).2.2
    rw [e, hb] at this; cases this
  refine ⟨⟨hI.ln, fun k hk => ?_, fun k k' hk hk' e => ?_, fun c j hc hj => ?_⟩, fun c hc => ?_⟩
  · simp only [putK] at hk ⊢
    by_cases hka : k = a / 4096
    · subst hka; simp [putD]; omega
    · rw [if_neg hka] at hk
      obtain ⟨k1, k2, k3⟩ := hI.key k hk
      simp only [if_neg hka]
      refine ⟨k1, k2, ?_⟩
      simp only [putD]
      split
      · rfl
      · exact k3
  · simp only [putK] at hk hk' e
    by_cases h1 : k = a / 4096 <;> by_cases h2 : k' = a / 4096
    · rw [h1, h2]
    · rw [if_pos h1, if_neg h2] at e
      rw [if_neg h2] at hk'
      exact absurd e.symm (hne k' hk')
    · rw [if_neg h1, if_pos h2] at e
      rw [if_neg h1] at hk
      exact absurd e (hne k hk)
    · rw [if_neg h1, if_neg h2] at e
      rw [if_neg h1] at hk
      rw [if_neg h2] at hk'
      exact hI.inj k k' hk hk' e
  · simp only [putD] at hc
    simp only [putBlk]
    split
    · omega
    · rename_i hcb
      rw [if_neg hcb] at hc
      exact hI.byte c j hc hj
  · simp only [PM.at_, putK, putBlk]
    by_cases h1 : c / 4096 = a / 4096
    · simp [h1, hno]
    · simp only [if_neg h1]
      split
      · rename_i hk
        rw [if_neg (hne _ hk)]
      · rfl
theorem le_bd {f : Int → Int} (hf : ∀ a, 0 ≤ f a ∧ f a < 256) : ∀ (c : Nat) (a : Int), 0 ≤ le f a c ∧ le f a c < 256 ^ c
  | 0, a => by simp [le]
  | c + 1, a => by
    have h1 := le_bd hf c (a + 1)
    have h2 := hf a
    simp only [le, Int.pow_succ]
    constructor
    · omega
    · omega
theorem le_ext {f g : Int → Int} : ∀ (c : Nat) (a : Int), (∀ b, a ≤ b → b < a + c → f b = g b) → le f a c = le g a c
  | 0, a, _ => rfl
  | c + 1, a, h => by
    rw [le, le, h a (by omega) (by omega), le_ext c (a + 1) (fun b h1 h2 => h b (by omega) (by omega))]
theorem le_zero {f : Int → Int} : ∀ (c : Nat) (a : Int), (∀ b, a ≤ b → b < a + c → f b = 0) → le f a c = 0
  | 0, a, _ => rfl
  | c + 1, a, h => by rw [le, h a (by omega) (by omega), le_zero c (a + 1) (fun b h1 h2 => h b (by omega) (by omega))]; rfl
theorem le_step (f : Int → Int) {a x k : Int} (h0 : 0 < x) (h : x ≤ k) : le f (a + (x - 1)) (k - (x - 1)).toNat = f (a + (x - 1)) + 256 * le f (a + x) (k - x).toNat := by
  rw [show (k - (x - 1)).toNat = (k - x).toNat + 1 by omega, le, show a + (x - 1) + 1 = a + x by omega]
theorem or_shift {x y : Int} (hx0 : 0 ≤ x) (hx : x < 16777216) (h0 : 0 ≤ y) (h1 : y < 256) : bits .or .u32 (IntKind.u32.wrap (x * 256)) (IntKind.u32.wrap y) = y + 256 * x := by
  rw [wrap_u32 (x := x * 256) (by omega) (by omega), wrap_u32 (x := y) (by omega) (by omega), bits_join .u32 32 (by decide) (fun n h0 h1 => wrap_u32 h0 (by omega)) 8 _ _ (by omega) (by omega) (by omega) (by omega) (by omega) (by omega)]
  omega
theorem PM.Inv.bd {n : Int} {m : PM} (h : m.Inv n) (a : Int) : 0 ≤ m.at_ a ∧ m.at_ a < 256 := by
  unfold PM.at_
  split
  · rename_i hk
    exact h.byte _ _ (h.key _ hk).2.2 (by omega)
  · omega
theorem PM.at_in (m : PM) {a i : Int} (h0 : 0 ≤ i) (h1 : a % 4096 + i < 4096) : m.at_ (a + i) = if m.has (a / 4096) = true then m.g (m.bb (a / 4096)) (a % 4096 + i).toNat else 0 := by
  unfold PM.at_
  rw [show (a + i) / 4096 = a / 4096 by omega, show (a + i) % 4096 = a % 4096 + i by omega]
theorem pow3 {c : Nat} (h : c ≤ 3) : (256 : Int) ^ c ≤ 16777216 := by
  have : c = 0 ∨ c = 1 ∨ c = 2 ∨ c = 3 := by omega
  rcases this with rfl | rfl | rfl | rfl <;> decide
theorem set_step {n : Int} {m : PM} {a i w : Int} (hI : m.Inv n) (hk : m.has (a / 4096) = true) (h0 : 0 ≤ i) (h1 : a % 4096 + i < 4096) (hw0 : 0 ≤ w) (hw1 : w < 256) :
    (PM.mk m.has m.bb m.ln m.dom (putB m.g (m.bb (a / 4096)) (a % 4096 + i).toNat w)).Inv n ∧ ∀ c, (PM.mk m.has m.bb m.ln m.dom (putB m.g (m.bb (a / 4096)) (a % 4096 + i).toNat w)).at_ c = if c = a + i then w else m.at_ c := by
  refine ⟨⟨hI.ln, hI.key, hI.inj, fun b j hb hj => ?_⟩, fun c => ?_⟩
  · simp only [putB]
    split
    · split
      · omega
      · exact hI.byte b j hb hj
    · exact hI.byte b j hb hj
  · simp only [PM.at_, putB]
    by_cases hc : c / 4096 = a / 4096
    · rw [hc]
      simp only [hk, if_true]
      by_cases he : c = a + i
      · rw [if_pos he, if_pos (by rw [he]; omega)]
      · rw [if_neg he, if_neg (by omega)]
    · rw [if_neg (show ¬ c = a + i by omega)]
      split
      · rename_i hh
        rw [if_neg (fun e => hc (hI.inj _ _ hh hk e))]
      · rfl
theorem setF_zero (f : Int → Int) (a v b : Int) : setF f a 0 v b = f b := by
  unfold setF; rw [if_neg (by omega)]
theorem setF_step (f : Int → Int) (a i v b : Int) (h0 : 0 ≤ i) : setF f a (i + 1) v b = if b = a + i then v / 256 ^ i.toNat % 256 else setF f a i v b := by
  unfold setF
  by_cases h : b = a + i
  · rw [if_pos h, if_pos (by omega), h, show (a + i - a).toNat = i.toNat by omega]
  · rw [if_neg h]
    by_cases h2 : a ≤ b ∧ b < a + i
    · rw [if_pos h2, if_pos (by omega)]
    · rw [if_neg h2, if_neg (by omega)]
theorem div_pow (v : Int) (i : Nat) : v / 256 ^ i / 256 = v / 256 ^ (i + 1) := by
  rw [Int.pow_succ, Int.ediv_ediv_of_nonneg (Int.pow_nonneg (by decide))]
/-- the error of so many bytes at a place -/
def err (n a k : Int) : Int := if a % k ≠ 0 then 2 else if a ≥ n * 4096 then 30 else 0
theorem err_ok {n a k : Int} (h : err n a k = 0) : a % k = 0 ∧ a < n * 4096 := by
  unfold err at h
  split at h
  · cases h
  · rename_i h1
    split at h
    · cases h
    · exact ⟨by simpa using h1, by omega⟩
def wrA (n : Int) (f : Int → Int) (a k v : Int) : Int → Int := fun b => if err n a k = 0 then setF f a k v b else f b
theorem wrap_u16 {x : Int} (h1 : 0 ≤ x) (h2 : x ≤ 65535) : IntKind.u16.wrap x = x := by
  simp only [IntKind.wrap, IntKind.bits, IntKind.signed]; simp; omega
theorem le_one (f : Int → Int) (a : Int) : le f a 1 = f a := by simp [le]
theorem le_two (f : Int → Int) (a : Int) : le f a 2 = f a + 256 * f (a + 1) := by simp [le]
theorem inv_none (n : Int) : (PM.mk (fun _ => false) (fun _ => 0) (fun _ => 4096) (fun _ => false) (fun _ _ => 0)).Inv n :=
  ⟨fun _ => rfl, fun k h => by simp at h, fun k k' h => by simp at h, fun b j h => by simp at h⟩
/-- the bits of numbers without a sign -/
theorem unsigned_wrap {k : IntKind} (hk : k.signed = false) {x : Int} (h0 : 0 ≤ x) (h1 : x < 2 ^ k.bits) : k.wrap x = x := by
  cases k <;> first | (exact absurd hk (by decide)) | (simp only [IntKind.wrap, IntKind.bits, IntKind.signed] at *; simp at *; omega)
theorem bv_nat {n : Nat} {x : Int} (h0 : 0 ≤ x) (h1 : x < 2 ^ n) : (BitVec.ofInt n x).toNat = x.toNat := by
  have e : ((2 : Int) ^ n) = ((2 ^ n : Nat) : Int) := by rw [Int.natCast_pow]; rfl
  rw [e] at h1
  rw [BitVec.toNat_ofInt, Int.emod_eq_of_lt h0 h1]
theorem bits_and {k : IntKind} (hk : k.signed = false) {x y : Int} (h0 : 0 ≤ x) (h1 : x < 2 ^ k.bits) (h2 : 0 ≤ y) (h3 : y < 2 ^ k.bits) : bits .and k x y = ((x.toNat &&& y.toNat : Nat) : Int) := by
  show k.wrap ((((BitVec.ofInt k.bits x) &&& (BitVec.ofInt k.bits y)).toNat : Nat) : Int) = _
  rw [BitVec.toNat_and, bv_nat h0 h1, bv_nat h2 h3]
  refine unsigned_wrap hk (Int.natCast_nonneg _) ?_
  have : x.toNat &&& y.toNat ≤ x.toNat := Nat.and_le_left
  omega
theorem bits_or {k : IntKind} (hk : k.signed = false) {x y : Int} (h0 : 0 ≤ x) (h1 : x < 2 ^ k.bits) (h2 : 0 ≤ y) (h3 : y < 2 ^ k.bits) : bits .or k x y = ((x.toNat ||| y.toNat : Nat) : Int) := by
  show k.wrap ((((BitVec.ofInt k.bits x) ||| (BitVec.ofInt k.bits y)).toNat : Nat) : Int) = _
  rw [BitVec.toNat_or, bv_nat h0 h1, bv_nat h2 h3]
  refine unsigned_wrap hk (Int.natCast_nonneg _) ?_
  have e : ((2 : Int) ^ k.bits) = ((2 ^ k.bits : Nat) : Int) := by rw [Int.natCast_pow]; rfl
  rw [e] at h1 h3 ⊢
  exact Int.ofNat_lt.2 (Nat.or_lt_two_pow (by omega) (by omega))
/-- the lowest bits -/
theorem and_low {k : IntKind} (hk : k.signed = false) {x : Int} (h0 : 0 ≤ x) (h1 : x < 2 ^ k.bits) (i : Nat) (hi : i < k.bits) : bits .and k x (2 ^ i - 1) = x % 2 ^ i := by
  have hm : ((2 : Int) ^ i - 1) = ((2 ^ i - 1 : Nat) : Int) := by
    rw [Int.natCast_sub (Nat.two_pow_pos i)]; simp
  have hp : (2 : Int) ^ i < 2 ^ k.bits := Int.pow_lt_pow_of_lt (by decide) hi
  have h3 : ((2 ^ i - 1 : Nat) : Int) < 2 ^ k.bits := by rw [← hm]; omega
  rw [hm, bits_and hk h0 h1 (Int.natCast_nonneg _) h3, Int.toNat_natCast, Nat.and_two_pow_sub_one_eq_mod]
  rw [Int.natCast_emod, Int.toNat_of_nonneg h0, Int.natCast_pow]; rfl
/-- without the lowest bits -/
theorem andNot_low {k : IntKind} (hk : k.signed = false) {x : Int} (h0 : 0 ≤ x) (h1 : x < 2 ^ k.bits) (i : Nat) (hi : i < k.bits) : bits .andNot k x (2 ^ i - 1) = x - x % 2 ^ i := by
  have hm : ((2 : Int) ^ i - 1) = ((2 ^ i - 1 : Nat) : Int) := by
    rw [Int.natCast_sub (Nat.two_pow_pos i)]; simp
  have hp : (2 : Int) ^ i < 2 ^ k.bits := Int.pow_lt_pow_of_lt (by decide) hi
  have h3 : ((2 ^ i - 1 : Nat) : Int) < 2 ^ k.bits := by rw [← hm]; omega
  have hpn : 2 ^ i < 2 ^ k.bits := Nat.pow_lt_pow_right (by decide) hi
  have hpp : 0 < 2 ^ i := Nat.two_pow_pos i
  rw [hm]
  show k.wrap ((((BitVec.ofInt k.bits x) &&& ~~~(BitVec.ofInt k.bits ((2 ^ i - 1 : Nat) : Int))).toNat : Nat) : Int) = _
  rw [BitVec.toNat_and, BitVec.toNat_not, bv_nat h0 h1, bv_nat (Int.natCast_nonneg _) h3, Int.toNat_natCast]
  have key : x.toNat &&& (2 ^ k.bits - 1 - (2 ^ i - 1)) = x.toNat - x.toNat % 2 ^ i := by
    have hx : x.toNat < 2 ^ k.bits := by
      have e : ((2 : Int) ^ k.bits) = ((2 ^ k.bits : Nat) : Int) := by rw [Int.natCast_pow]; rfl
      rw [e] at h1; omega
    have e1 : x.toNat - x.toNat % 2 ^ i = 2 ^ i * (x.toNat / 2 ^ i) := by
      have := Nat.div_add_mod x.toNat (2 ^ i)
      omega
    have e2 : 2 ^ k.bits - 1 - (2 ^ i - 1) = 2 ^ k.bits - ((2 ^ i - 1) + 1) := by omega
    rw [e1, e2]
    apply Nat.eq_of_testBit_eq
    intro j
    rw [Nat.testBit_and, Nat.testBit_two_pow_sub_succ (by omega), Nat.testBit_two_pow_sub_one, Nat.testBit_two_pow_mul]
    by_cases hj : i ≤ j
    · have : Nat.testBit (x.toNat / 2 ^ i) (j - i) = x.toNat.testBit j := by
        rw [Nat.testBit_div_two_pow]; congr 1; omega
      rw [this]
      by_cases hb : j < k.bits
      · simp [hj, hb, Nat.not_lt.2 hj]
      · have : x.toNat.testBit j = false := Nat.testBit_lt_two_pow (Nat.lt_of_lt_of_le hx (Nat.pow_le_pow_right (by decide) (by omega)))
        simp [this]
    · simp [hj, Nat.lt_of_not_le hj]
  rw [key]
  have hle : x.toNat % 2 ^ i ≤ x.toNat := Nat.mod_le _ _
  have e3 : ((x.toNat - x.toNat % 2 ^ i : Nat) : Int) = x - x % 2 ^ i := by
    rw [Int.natCast_sub hle, Int.natCast_emod, Int.toNat_of_nonneg h0, Int.natCast_pow]; rfl
  rw [e3]
  have hb1 : 0 ≤ x % 2 ^ i := Int.emod_nonneg _ (Int.ne_of_gt (Int.pow_pos (by decide)))
  have hb2 : x % 2 ^ i ≤ x := by
    have := Int.ofNat_le.2 hle
    rw [Int.natCast_emod, Int.toNat_of_nonneg h0, Int.natCast_pow] at this
    exact this
  exact unsigned_wrap hk (by omega) (by omega)
/-- numbers that share no bits -/
theorem or_add {k : IntKind} (hk : k.signed = false) {a b : Int} (i : Nat) (h0 : 0 ≤ a) (h1 : a * 2 ^ i < 2 ^ k.bits) (h2 : 0 ≤ b) (h3 : b < 2 ^ i) (hi : i ≤ k.bits) : bits .or k (a * 2 ^ i) b = a * 2 ^ i + b := by
  have hpi : (0 : Int) < 2 ^ i := Int.pow_pos (by decide)
  have h4 : 0 ≤ a * 2 ^ i := Int.mul_nonneg h0 (Int.le_of_lt hpi)
  have h5 : b < 2 ^ k.bits := by
    refine Int.lt_of_lt_of_le h3 ?_
    have := Int.ofNat_le.2 (Nat.pow_le_pow_right (n := 2) (by decide) hi)
    rwa [Int.natCast_pow, Int.natCast_pow] at this
  rw [bits_or hk h4 h1 h2 h5]
  obtain ⟨n, rfl⟩ := Int.eq_ofNat_of_zero_le h0
  obtain ⟨m, rfl⟩ := Int.eq_ofNat_of_zero_le h2
  have e : ((n : Int) * 2 ^ i).toNat = 2 ^ i * n := by
    rw [show (n : Int) * 2 ^ i = ((2 ^ i * n : Nat) : Int) by rw [Int.natCast_mul, Int.natCast_pow, Int.mul_comm]; rfl, Int.toNat_natCast]
  have hm : m < 2 ^ i := by
    have e : ((2 : Int) ^ i) = ((2 ^ i : Nat) : Int) := by rw [Int.natCast_pow]; rfl
    rw [e] at h3; omega
  rw [e, Int.toNat_natCast, ← Nat.two_pow_add_eq_or_of_lt hm]
  rw [Int.natCast_add, Int.natCast_mul, Int.natCast_pow, Int.mul_comm]; rfl
theorem or_add' {k : IntKind} (hk : k.signed = false) {a b : Int} (i : Nat) (h0 : 0 ≤ a) (h1 : a * 2 ^ i < 2 ^ k.bits) (h2 : 0 ≤ b) (h3 : b < 2 ^ i) (hi : i ≤ k.bits) : bits .or k b (a * 2 ^ i) = a * 2 ^ i + b := by
  have hpi : (0 : Int) < 2 ^ i := Int.pow_pos (by decide)
  have h4 : 0 ≤ a * 2 ^ i := Int.mul_nonneg h0 (Int.le_of_lt hpi)
  have h5 : b < 2 ^ k.bits := by
    refine Int.lt_of_lt_of_le h3 ?_
    have := Int.ofNat_le.2 (Nat.pow_le_pow_right (n := 2) (by decide) hi)
    rwa [Int.natCast_pow, Int.natCast_pow] at this
  rw [← or_add hk i h0 h1 h2 h3 hi, bits_or hk h4 h1 h2 h5, bits_or hk h2 h5 h4 h1, Nat.or_comm]
/-- a number by its bits, from a place on -/
def numS (g : Nat → Int) : Nat → Nat → Int
  | _, 0 => 0
  | j, c + 1 => g j + 2 * numS g (j + 1) c
theorem num_bits (w : Int) : ∀ c j : Nat, numS (fun i => w / 2 ^ i % 2) j c = w / 2 ^ j % 2 ^ c
  | 0, j => by simp [numS]
  | c + 1, j => by
    simp only [numS]
    rw [num_bits w c (j + 1)]
    have e : w / 2 ^ (j + 1) = w / 2 ^ j / 2 := by
      rw [Int.pow_succ, Int.ediv_ediv_of_nonneg (Int.le_of_lt (Int.pow_pos (by decide)))]
    rw [e]
    generalize w / 2 ^ j = x
    rw [Int.pow_succ]
    have hp : (0 : Int) < 2 ^ c := Int.pow_pos (by decide)
    generalize (2 : Int) ^ c = p at hp
    have e1 := Int.mul_ediv_add_emod (x / 2) p
    have h1 := Int.emod_nonneg (x / 2) (Int.ne_of_gt hp)
    have h2 := Int.emod_lt_of_pos (x / 2) hp
    have e2 : x = x % 2 + 2 * (x / 2 % p) + p * 2 * (x / 2 / p) := by
      have : p * 2 * (x / 2 / p) = 2 * (p * (x / 2 / p)) := by rw [Int.mul_comm p 2, Int.mul_assoc]
      omega
    have e3 : x % (p * 2) = (x % 2 + 2 * (x / 2 % p) + p * 2 * (x / 2 / p)) % (p * 2) := by rw [← e2]
    rw [e3, Int.add_mul_emod_self_left]
    exact (Int.emod_eq_of_lt (by omega) (by omega)).symm
theorem nat_clear {n s x : Nat} (hx : x < 2 ^ n) (hs : s + 8 ≤ n) : x &&& (2 ^ n - (255 * 2 ^ s + 1)) = 2 ^ (s + 8) * (x / 2 ^ (s + 8)) + x % 2 ^ s := by
  have hlt : x % 2 ^ s < 2 ^ (s + 8) := Nat.lt_of_lt_of_le (Nat.mod_lt _ (Nat.two_pow_pos s)) (Nat.pow_le_pow_right (by decide) (by omega))
  have hm : 255 * 2 ^ s < 2 ^ n := by
    have h1 : 2 ^ (s + 8) ≤ 2 ^ n := Nat.pow_le_pow_right (by decide) hs
    have h2 : 2 ^ (s + 8) = 2 ^ s * 256 := by rw [Nat.pow_add]
    have h3 := Nat.two_pow_pos s
    omega
  apply Nat.eq_of_testBit_eq
  intro j
  rw [Nat.testBit_and, Nat.testBit_two_pow_sub_succ hm, Nat.testBit_two_pow_mul_add _ hlt, Nat.mul_comm 255, Nat.testBit_two_pow_mul, show (255 : Nat) = 2 ^ 8 - 1 by decide, Nat.testBit_two_pow_sub_one, Nat.testBit_mod_two_pow, Nat.testBit_div_two_pow]
  by_cases h1 : j < s
  · have : j < s + 8 := by omega
    have h3 : j < n := by omega
    have h4 : ¬ s ≤ j := by omega
    simp [h1, this, h3, h4]
  · by_cases h2 : j < s + 8
    · have h3 : j - s < 8 := by omega
      have h4 : s ≤ j := by omega
      simp [h1, h2, h3, h4]
    · have h3 : ¬ j - s < 8 := by omega
      have e : j - (s + 8) + (s + 8) = j := by omega
      by_cases h5 : j < n
      · simp [h2, h3, h5, e]
      · have : x.testBit j = false := Nat.testBit_lt_two_pow (Nat.lt_of_lt_of_le hx (Nat.pow_le_pow_right (by decide) (by omega)))
        simp [h2, this, e]
theorem nat_byte {s x v : Nat} (hv : v < 256) : (2 ^ (s + 8) * (x / 2 ^ (s + 8)) + x % 2 ^ s) ||| (v * 2 ^ s) = 2 ^ (s + 8) * (x / 2 ^ (s + 8)) + (v * 2 ^ s + x % 2 ^ s) := by
  have h0 := Nat.two_pow_pos s
  have h1 : x % 2 ^ s < 2 ^ s := Nat.mod_lt _ h0
  have h2 : 2 ^ (s + 8) = 2 ^ s * 256 := by rw [Nat.pow_add]
  have h3 : v * 2 ^ s ≤ 255 * 2 ^ s := Nat.mul_le_mul_right _ (by omega)
  rw [Nat.two_pow_add_eq_or_of_lt (by omega), Nat.two_pow_add_eq_or_of_lt (a := x / 2 ^ (s + 8)) (b := v * 2 ^ s + x % 2 ^ s) (by omega), Nat.mul_comm v, Nat.two_pow_add_eq_or_of_lt h1, Nat.or_assoc, Nat.or_comm (x % 2 ^ s)]
/-- a byte is laid into a number -/
theorem lay_byte {k : IntKind} (hk : k.signed = false) {x v : Int} (s : Nat) (hs : s + 8 ≤ k.bits) (h0 : 0 ≤ x) (h1 : x < 2 ^ k.bits) (h2 : 0 ≤ v) (h3 : v < 256) :
    bits .or k (bits .andNot k x (255 * 2 ^ s)) (v * 2 ^ s) = x - x / 2 ^ s % 256 * 2 ^ s + v * 2 ^ s := by
  obtain ⟨x, rfl⟩ := Int.eq_ofNat_of_zero_le h0
  obtain ⟨v, rfl⟩ := Int.eq_ofNat_of_zero_le h2
  have ek : ((2 : Int) ^ k.bits) = ((2 ^ k.bits : Nat) : Int) := by rw [Int.natCast_pow]; rfl
  have es : ((2 : Int) ^ s) = ((2 ^ s : Nat) : Int) := by rw [Int.natCast_pow]; rfl
  rw [ek] at h1
  have hx : x < 2 ^ k.bits := by omega
  have hp := Nat.two_pow_pos s
  have hm : 255 * 2 ^ s < 2 ^ k.bits := by
    have h1 : 2 ^ (s + 8) ≤ 2 ^ k.bits := Nat.pow_le_pow_right (by decide) hs
    have h2 : 2 ^ (s + 8) = 2 ^ s * 256 := by rw [Nat.pow_add]
    omega
  have e1 : bits .andNot k (x : Int) (255 * 2 ^ s) = ((2 ^ (s + 8) * (x / 2 ^ (s + 8)) + x % 2 ^ s : Nat) : Int) := by
    have em : (255 * 2 ^ s : Int) = ((255 * 2 ^ s : Nat) : Int) := by rw [Int.natCast_mul, es]; rfl
    rw [em]
    show k.wrap ((((BitVec.ofInt k.bits (x : Int)) &&& ~~~(BitVec.ofInt k.bits ((255 * 2 ^ s : Nat) : Int))).toNat : Nat) : Int) = _
    rw [BitVec.toNat_and, BitVec.toNat_not, bv_nat (Int.natCast_nonneg _) (by rw [ek]; exact h1), bv_nat (Int.natCast_nonneg _) (by rw [ek]; exact Int.ofNat_lt.2 hm), Int.toNat_natCast, Int.toNat_natCast, Nat.sub_sub, Nat.add_comm 1, nat_clear hx hs]
    refine unsigned_wrap hk (Int.natCast_nonneg _) ?_
    rw [ek]
    refine Int.ofNat_lt.2 ?_
    rw [← nat_clear hx hs]
    exact Nat.lt_of_le_of_lt Nat.and_le_left hx
  have hq : 2 ^ (s + 8) * (x / 2 ^ (s + 8)) + x % 2 ^ s < 2 ^ k.bits := by
    rw [← nat_clear hx hs]
    exact Nat.lt_of_le_of_lt Nat.and_le_left hx
  have hv : v < 256 := by omega
  have hv2 : v * 2 ^ s ≤ 255 * 2 ^ s := Nat.mul_le_mul_right _ (by omega)
  have e2 : ((v : Int) * 2 ^ s) = ((v * 2 ^ s : Nat) : Int) := by rw [Int.natCast_mul, es]
  rw [e1, e2, bits_or hk (Int.natCast_nonneg _) (by rw [ek]; exact Int.ofNat_lt.2 hq) (Int.natCast_nonneg _) (by rw [ek]; exact Int.ofNat_lt.2 (by omega)), Int.toNat_natCast, Int.toNat_natCast, nat_byte hv]
  have h5 : x = 2 ^ (s + 8) * (x / 2 ^ (s + 8)) + (x / 2 ^ s % 256 * 2 ^ s + x % 2 ^ s) := by
    have a1 := Nat.div_add_mod x (2 ^ s)
    have a2 := Nat.div_add_mod (x / 2 ^ s) 256
    have a3 : x / 2 ^ s / 256 = x / 2 ^ (s + 8) := by rw [Nat.div_div_eq_div_mul, Nat.pow_add]
    rw [a3] at a2
    have a4 : 2 ^ (s + 8) * (x / 2 ^ (s + 8)) = 2 ^ s * (256 * (x / 2 ^ (s + 8))) := by rw [Nat.pow_add, Nat.mul_assoc]
    rw [a4, Nat.mul_comm (x / 2 ^ s % 256)]
    have a5 : 2 ^ s * (256 * (x / 2 ^ (s + 8))) + (2 ^ s * (x / 2 ^ s % 256) + x % 2 ^ s) = 2 ^ s * (256 * (x / 2 ^ (s + 8)) + x / 2 ^ s % 256) + x % 2 ^ s := by rw [Nat.mul_add, Nat.add_assoc]
    rw [a5, a2]; exact a1.symm
  have h6 : ((x / 2 ^ s % 256 * 2 ^ s : Nat) : Int) = (x : Int) / 2 ^ s % 256 * 2 ^ s := by rw [Int.natCast_mul, Int.natCast_emod, Int.natCast_ediv, es]; rfl
  rw [← h6]
  omega
/-- what a descriptor says -/
structure Ent where
  kind : Int
  base : Int
  dom : Int
  ns : Bool
  ap : Int
  bits : Int
  ng : Bool
  xn : Bool
def Ent.zero : Ent := ⟨0, 0, 0, false, 0, 0, false, false⟩
structure Tr where
  size : Int
  va : Int
  pa : Int
  dom : Int
  ap : Int
  bits : Int
  ng : Bool
  xn : Bool
def Tr.zero : Tr := ⟨0, 0, 0, 0, 0, 0, false, false⟩
structure Ft where
  kind : Int
  level : Int
  dom : Int
def Ft.zero : Ft := ⟨0, 0, 0⟩
/-- a bit -/
def bt (w : Int) (i : Nat) : Bool := decide (w / 2 ^ i % 2 = 1)
/-- what a first-level word says -/
def D1 (w : Int) : Ent :=
  if w % 4 = 1 then ⟨1, w - w % 1024, w / 32 % 16, bt w 3, 0, 0, false, false⟩
  else if w % 4 = 2 then
    if w / 262144 % 2 = 1 then ⟨3, w / 16777216 * 16777216 + w / 1048576 % 16 * 4294967296 + w / 32 % 16 * 68719476736, 0, bt w 19, 4 * (w / 32768 % 2) + w / 1024 % 4, 8 * (w / 4096 % 8) + 2 * (w / 4 % 4) + w / 65536 % 2, bt w 17, bt w 4⟩
    else ⟨2, w - w % 1048576, w / 32 % 16, bt w 19, 4 * (w / 32768 % 2) + w / 1024 % 4, 8 * (w / 4096 % 8) + 2 * (w / 4 % 4) + w / 65536 % 2, bt w 17, bt w 4⟩
  else Ent.zero
/-- what a second-level word says -/
def D2 (w : Int) : Ent :=
  if w % 4 = 0 then Ent.zero
  else if w % 4 = 1 then ⟨4, w - w % 65536, 0, false, 4 * (w / 512 % 2) + w / 16 % 4, 8 * (w / 4096 % 8) + 2 * (w / 4 % 4) + w / 1024 % 2, bt w 11, bt w 15⟩
  else ⟨5, w - w % 4096, 0, false, 4 * (w / 512 % 2) + w / 16 % 4, 8 * (w / 64 % 8) + 2 * (w / 4 % 4) + w / 1024 % 2, bt w 11, bt w 0⟩
def leafOk (ap bits : Int) : Bool := decide (0 ≤ ap) && decide (ap ≤ 7) && decide (bits ≤ 63)
def placeOk (v : Int) (n top : Nat) : Bool := decide (v % 2 ^ n = 0) && decide (v < 2 ^ top)
def domOk (d : Int) : Bool := decide (0 ≤ d) && decide (d ≤ 15)
def says1 (e : Ent) : Bool :=
  if e.kind = 0 then decide (e.base = 0) && decide (e.dom = 0) && !e.ns && decide (e.ap = 0) && decide (e.bits = 0) && !e.ng && !e.xn
  else if e.kind = 1 then placeOk e.base 10 32 && domOk e.dom && (decide (e.ap = 0) && decide (e.bits = 0) && !e.ng && !e.xn)
  else if e.kind = 2 then placeOk e.base 20 32 && leafOk e.ap e.bits && domOk e.dom
  else if e.kind = 3 then placeOk e.base 24 40 && leafOk e.ap e.bits && decide (e.dom = 0)
  else false
def says2 (e : Ent) : Bool :=
  if e.kind = 0 then decide (e.base = 0) && decide (e.dom = 0) && !e.ns && decide (e.ap = 0) && decide (e.bits = 0) && !e.ng && !e.xn
  else if e.kind = 4 then placeOk e.base 16 32 && leafOk e.ap e.bits && decide (e.dom = 0) && !e.ns
  else if e.kind = 5 then placeOk e.base 12 32 && leafOk e.ap e.bits && decide (e.dom = 0) && !e.ns
  else false
def sizeK (k : Int) : Int := if k = 5 then 1 else if k = 4 then 2 else if k = 2 then 3 else if k = 3 then 4 else 0
/-- the size that a loop over the kinds has found behind so many -/
def sizeJ (k : Int) (j : Nat) : Int := if 1 ≤ j ∧ k = 5 then 1 else if 2 ≤ j ∧ k = 4 then 2 else if 3 ≤ j ∧ k = 2 then 3 else if 4 ≤ j ∧ k = 3 then 4 else 0
def repS (s : Int) : Int := if s = 1 ∨ s = 3 then 1 else if s = 2 ∨ s = 4 then 16 else 0
def shiftS (s : Int) : Nat := if s = 1 then 12 else if s = 2 then 16 else if s = 3 then 20 else if s = 4 then 24 else 0
/-- the translation of a block's entry at an address -/
def transS (e : Ent) (dom va : Int) : Tr :=
  if sizeK e.kind = 0 then Tr.zero
  else if 3 ≤ sizeK e.kind then (if says1 e = true then ⟨sizeK e.kind, va - va % 2 ^ shiftS (sizeK e.kind), e.base, e.dom, e.ap, e.bits, e.ng, e.xn⟩ else Tr.zero)
  else if says2 e = true ∧ domOk dom = true then ⟨sizeK e.kind, va - va % 2 ^ shiftS (sizeK e.kind), e.base, dom, e.ap, e.bits, e.ng, e.xn⟩
  else Tr.zero
def rightS (t : Tr) : Bool := decide (1 ≤ t.size) && decide (t.size ≤ 4) && placeOk t.va (shiftS t.size) 32 && domOk t.dom && (!decide (t.size = 4) || decide (t.dom = 0)) && placeOk t.pa (shiftS t.size) (if t.size = 4 then 40 else 32) && leafOk t.ap t.bits
/-- what a walk takes from the registers -/
structure Cx9 where
  on : Bool
  n : Int
  pd0 : Bool
  pd1 : Bool
  b0 : Int
  b1 : Int
def lowHalf (c : Cx9) (va : Int) : Prop := c.n % 8 = 0 ∨ va < 2 ^ (32 - (c.n % 8).toNat)
instance (c : Cx9) (va : Int) : Decidable (lowHalf c va) := by unfold lowHalf; exact inferInstance
def firstA (c : Cx9) (va : Int) : Int := if lowHalf c va then IntKind.u64.wrap (c.b0 - c.b0 % 2 ^ (14 - (c.n % 8).toNat) + va / 1048576 * 4) else IntKind.u64.wrap (c.b1 - c.b1 % 16384 + va / 1048576 * 4)
def firstOk (c : Cx9) (va : Int) : Bool := if lowHalf c va then !c.pd0 else !c.pd1
/-- a walk over a memory of so many frames with these bytes: what it finds, or the fault; what it reads -/
structure Wk where
  t : Tr
  f : Ft
  m : Nat
  a : Nat → Int
def secA (e : Ent) (va : Int) : Int := IntKind.u64.wrap (e.base + va / 4096 % 256 * 4)
def walkS (n : Int) (f : Int → Int) (c : Cx9) (va : Int) : Wk :=
  if c.on = false then ⟨⟨1, va - va % 4096, va - va % 4096, 0, 3, 0, false, false⟩, Ft.zero, 0, fun _ => 0⟩
  else if firstOk c va = false then ⟨Tr.zero, ⟨3, 0, 0⟩, 0, fun _ => 0⟩
  else if err n (firstA c va) 4 ≠ 0 then ⟨Tr.zero, ⟨2, 0, 0⟩, 1, fun _ => firstA c va⟩
  else if (D1 (le f (firstA c va) 4)).kind = 0 then ⟨Tr.zero, ⟨3, 0, 0⟩, 1, fun _ => firstA c va⟩
  else if (D1 (le f (firstA c va) 4)).kind ≠ 1 then ⟨transS (D1 (le f (firstA c va) 4)) 0 va, Ft.zero, 1, fun _ => firstA c va⟩
  else if err n (secA (D1 (le f (firstA c va) 4)) va) 4 ≠ 0 then ⟨Tr.zero, ⟨4, 0, (D1 (le f (firstA c va) 4)).dom⟩, 2, fun i => if i = 0 then firstA c va else secA (D1 (le f (firstA c va) 4)) va⟩
  else if (D2 (le f (secA (D1 (le f (firstA c va) 4)) va) 4)).kind = 0 then ⟨Tr.zero, ⟨5, 0, (D1 (le f (firstA c va) 4)).dom⟩, 2, fun i => if i = 0 then firstA c va else secA (D1 (le f (firstA c va) 4)) va⟩
  else ⟨transS (D2 (le f (secA (D1 (le f (firstA c va) 4)) va) 4)) (D1 (le f (firstA c va) 4)).dom va, Ft.zero, 2, fun i => if i = 0 then firstA c va else secA (D1 (le f (firstA c va) 4)) va⟩
/-- the bits that are laid so far -/
def BI (w : Int) (b2 b3 : Nat) (x : Nat × (Nat → Nat) × (Nat → Bool) × (Nat → Nat → Int)) : Prop := x.2.2.1 b2 = true ∧ x.2.2.1 b3 = true ∧ (∀ b, x.2.1 b = 32) ∧ ∀ i, i < 32 → x.2.2.2 b3 i = if i < x.1 then w / 2 ^ i % 2 else 0
theorem dle (a b : Int) : decide (a ≤ b) = !decide (b < a) := by by_cases h : b < a <;> simp [h] <;> omega
theorem bif_and (a b : Bool) : (bif a then b else false) = (a && b) := by cases a <;> rfl
theorem bif_or (a b : Bool) : (bif a then true else b) = (a || b) := by cases a <;> rfl
theorem pow_lt {n m : Nat} (h : n < m) : (2 : Int) ^ n < 2 ^ m := Int.pow_lt_pow_of_lt (by decide) h
theorem pow_wrap (m : Int) (h0 : 0 ≤ m) (h1 : m < 64) : IntKind.u64.wrap (1 * ((2 ^ min m.toNat 64 : Nat) : Int)) = 2 ^ m.toNat := by
  have hp := pow_lt (n := m.toNat) (m := 64) (by omega)
  have hp0 := Int.pow_pos (n := 2) (m := m.toNat) (by decide)
  rw [show min m.toNat 64 = m.toNat by omega, Int.natCast_pow, Int.one_mul]
  exact unsigned_wrap (k := .u64) rfl (by show 0 ≤ (2 : Int) ^ m.toNat; omega) hp
theorem field_eq {w lo n : Int} (h0 : 0 ≤ w) (h1 : w < 4294967296) (hn : n.toNat < 32) : bits .and .u32 (w / ((2 ^ lo.toNat : Nat) : Int)) (IntKind.u32.wrap (IntKind.u32.wrap (1 * ((2 ^ n.toNat : Nat) : Int)) - 1)) = w / 2 ^ lo.toNat % 2 ^ n.toNat := by
  have hp := pow_lt (n := n.toNat) (m := 32) hn
  have hp0 := Int.pow_pos (n := 2) (m := n.toNat) (by decide)
  rw [Int.natCast_pow, Int.natCast_pow, Int.one_mul]
  have e1 : IntKind.u32.wrap ((2 : Int) ^ n.toNat) = 2 ^ n.toNat := unsigned_wrap (k := .u32) rfl (by omega) hp
  have e2 : IntKind.u32.wrap ((2 : Int) ^ n.toNat - 1) = 2 ^ n.toNat - 1 := unsigned_wrap (k := .u32) rfl (by omega) (by show (2 : Int) ^ n.toNat - 1 < 2 ^ 32; omega)
  have e3 : (((2 : Nat) : Int)) = 2 := rfl
  rw [e3, e1, e2]
  have hq : 0 ≤ w / 2 ^ lo.toNat := Int.ediv_nonneg h0 (Int.le_of_lt (Int.pow_pos (by decide)))
  have hq2 : w / 2 ^ lo.toNat ≤ w := Int.ediv_le_self _ h0
  exact and_low (k := .u32) rfl hq (by show w / 2 ^ lo.toNat < 4294967296; omega) n.toNat hn
theorem shiftS_le (s : Int) : shiftS s ≤ 24 := by unfold shiftS; (repeat' split) <;> decide
theorem putBlk_at (g : Nat → Nat → Int) (b : Nat) (h : Nat → Int) : putBlk g b h b = h := by funext j; simp [putBlk]
theorem putD_at (d : Nat → Bool) (b : Nat) : putD d b b = true := by simp [putD]
theorem bit01 (w : Int) (i : Nat) : 0 ≤ w / 2 ^ i % 2 ∧ w / 2 ^ i % 2 ≤ 1 := by omega
theorem ap_eq {a b : Int} (h0 : 0 ≤ a) (h1 : a ≤ 1) (h2 : 0 ≤ b) (h3 : b ≤ 3) : IntKind.i64.wrap (IntKind.u32.wrap (IntKind.u32.wrap (4 * a) + b)) = 4 * a + b := by
  rw [wrap_u32 (x := 4 * a) (by omega) (by omega), wrap_u32 (by omega) (by omega), wrap_i64 (by omega) (by omega)]
theorem bi_eq {a b c : Int} (h0 : 0 ≤ a) (h1 : a ≤ 7) (h2 : 0 ≤ b) (h3 : b ≤ 3) (h4 : 0 ≤ c) (h5 : c ≤ 1) : IntKind.u32.wrap (IntKind.u32.wrap (IntKind.u32.wrap (8 * a) + IntKind.u32.wrap (2 * b)) + c) = 8 * a + 2 * b + c := by
  rw [wrap_u32 (x := 8 * a) (by omega) (by omega), wrap_u32 (x := 2 * b) (by omega) (by omega), wrap_u32 (x := 8 * a + 2 * b) (by omega) (by omega), wrap_u32 (by omega) (by omega)]
theorem bi_eq2 {a b c : Int} (h0 : 0 ≤ a) (h1 : a ≤ 7) (h2 : 0 ≤ b) (h3 : b ≤ 3) (h4 : 0 ≤ c) (h5 : c ≤ 1) : IntKind.u32.wrap (IntKind.u32.wrap (IntKind.u32.wrap (2 * b) + c) + IntKind.u32.wrap (8 * a)) = 8 * a + 2 * b + c := by
  rw [wrap_u32 (x := 8 * a) (by omega) (by omega), wrap_u32 (x := 2 * b) (by omega) (by omega), wrap_u32 (x := 2 * b + c) (by omega) (by omega), wrap_u32 (by omega) (by omega)]; omega
theorem an_u32 {w : Int} (h0 : 0 ≤ w) (h1 : w < 4294967296) (i : Nat) (hi : i < 32) (m p : Int) (hm : m = 2 ^ i - 1) (hp : p = 2 ^ i) : bits .andNot .u32 w m = w - w % p := by
  subst hm; subst hp; exact andNot_low (k := .u32) rfl h0 h1 i hi
theorem an_wrap {w : Int} (h0 : 0 ≤ w) (h1 : w < 4294967296) (i : Nat) (hi : i < 32) (m p : Int) (hm : m = 2 ^ i - 1) (hp : p = 2 ^ i) : IntKind.u64.wrap (bits .andNot .u32 w m) = w - w % p := by
  rw [an_u32 h0 h1 i hi m p hm hp]
  have hp0 : 0 < p := by rw [hp]; exact Int.pow_pos (by decide)
  have h2 := Int.emod_nonneg w (Int.ne_of_gt hp0)
  have h3 := Int.emod_lt_of_pos w hp0
  have h4 : w % p ≤ w := by
    have := Int.mul_ediv_add_emod w p
    have h5 : 0 ≤ p * (w / p) := Int.mul_nonneg (Int.le_of_lt hp0) (Int.ediv_nonneg h0 (Int.le_of_lt hp0))
    omega
  exact wrap_u64 (by omega) (by omega)
theorem sup_base {w : Int} (h0 : 0 ≤ w) (h1 : w < 4294967296) : bits .or .u64 (bits .or .u64 (IntKind.u64.wrap (bits .andNot .u32 w 16777215)) (IntKind.u64.wrap (IntKind.u64.wrap (w / 1048576 % 16) * 4294967296))) (IntKind.u64.wrap (IntKind.u64.wrap (w / 32 % 16) * 68719476736)) = w / 16777216 * 16777216 + w / 1048576 % 16 * 4294967296 + w / 32 % 16 * 68719476736 := by
  rw [an_wrap h0 h1 24 (by decide) 16777215 16777216 (by decide) (by decide), wrap_u64 (x := w / 1048576 % 16) (by omega) (by omega), wrap_u64 (x := w / 1048576 % 16 * 4294967296) (by omega) (by omega), wrap_u64 (x := w / 32 % 16) (by omega) (by omega), wrap_u64 (x := w / 32 % 16 * 68719476736) (by omega) (by omega)]
  have o1 := or_add' (k := .u64) rfl (a := w / 1048576 % 16) (b := w - w % 16777216) 32 (by omega) (by show w / 1048576 % 16 * 2 ^ 32 < 2 ^ 64; omega) (by omega) (by omega) (by decide)
  rw [show (2 : Int) ^ 32 = 4294967296 by decide] at o1
  rw [o1]
  have o2 := or_add' (k := .u64) rfl (a := w / 32 % 16) (b := w / 1048576 % 16 * 4294967296 + (w - w % 16777216)) 36 (by omega) (by show w / 32 % 16 * 2 ^ 36 < 2 ^ 64; omega) (by omega) (by omega) (by decide)
  rw [show (2 : Int) ^ 36 = 68719476736 by decide] at o2
  rw [o2]; omega
theorem numS_bd {g : Nat → Int} (hg : ∀ i : Nat, i < 32 → 0 ≤ g i ∧ g i ≤ 1) : ∀ c j : Nat, j + c ≤ 32 → 0 ≤ numS g j c ∧ numS g j c < 2 ^ c
  | 0, j, _ => by simp [numS]
  | c + 1, j, h => by
    have ih := numS_bd hg c (j + 1) (by omega)
    have := hg j (by omega)
    simp only [numS]
    rw [Int.pow_succ]
    omega
theorem ap_eq3 {a b : Int} (h0 : 0 ≤ a) (h1 : a ≤ 1) (h2 : 0 ≤ b) (h3 : b ≤ 3) : IntKind.i64.wrap (IntKind.i64.wrap (4 * a) + b) = 4 * a + b := by
  rw [wrap_i64 (x := 4 * a) (by omega) (by omega), wrap_i64 (by omega) (by omega)]
theorem bi_eq3 {w x c : Int} (h0 : 0 ≤ x) (h1 : x ≤ 7) (h4 : 0 ≤ c) (h5 : c ≤ 1) : IntKind.u32.wrap (IntKind.i64.wrap (IntKind.i64.wrap (IntKind.i64.wrap (IntKind.i64.wrap (8 * x) + IntKind.i64.wrap (4 * (w / 8 % 2))) + IntKind.i64.wrap (2 * (w / 4 % 2))) + c)) = 8 * x + 2 * (w / 4 % 4) + c := by
  rw [wrap_i64 (x := 8 * x) (by omega) (by omega), wrap_i64 (x := 4 * (w / 8 % 2)) (by omega) (by omega), wrap_i64 (x := 2 * (w / 4 % 2)) (by omega) (by omega), wrap_i64 (x := 8 * x + 4 * (w / 8 % 2)) (by omega) (by omega), wrap_i64 (x := 8 * x + 4 * (w / 8 % 2) + 2 * (w / 4 % 2)) (by omega) (by omega), wrap_i64 (by omega) (by omega), wrap_u32 (by omega) (by omega)]
  omega
theorem sup_base3 {w : Int} (h0 : 0 ≤ w) (h1 : w < 4294967296) : IntKind.u64.wrap (IntKind.u64.wrap (IntKind.u64.wrap (IntKind.u64.wrap (w / 16777216 % 256) * 16777216) + IntKind.u64.wrap (IntKind.u64.wrap (w / 1048576 % 16) * 4294967296)) + IntKind.u64.wrap (IntKind.u64.wrap (w / 32 % 16) * 68719476736)) = w / 16777216 * 16777216 + w / 1048576 % 16 * 4294967296 + w / 32 % 16 * 68719476736 := by
  rw [wrap_u64 (x := w / 16777216 % 256) (by omega) (by omega), wrap_u64 (x := w / 1048576 % 16) (by omega) (by omega), wrap_u64 (x := w / 32 % 16) (by omega) (by omega), wrap_u64 (x := w / 16777216 % 256 * 16777216) (by omega) (by omega), wrap_u64 (x := w / 1048576 % 16 * 4294967296) (by omega) (by omega), wrap_u64 (x := w / 32 % 16 * 68719476736) (by omega) (by omega), wrap_u64 (x := w / 16777216 % 256 * 16777216 + w / 1048576 % 16 * 4294967296) (by omega) (by omega), wrap_u64 (by omega) (by omega)]
  omega
theorem and_i64' (i : Nat) (hi : i ≤ 62) (x : Int) : bits .and .i64 x (2 ^ i - 1) = x % 2 ^ i := by
  have hm : ((2 : Int) ^ i - 1) = ((2 ^ i - 1 : Nat) : Int) := by
    rw [Int.natCast_sub (Nat.two_pow_pos i)]; simp
  have hle : 2 ^ i ≤ 2 ^ 62 := Nat.pow_le_pow_right (by decide) hi
  have h64 : (2 ^ i - 1) % 2 ^ 64 = 2 ^ i - 1 := Nat.mod_eq_of_lt (by have : (2 : Nat) ^ 62 < 2 ^ 64 := by decide
                                                                      omega)
  have hd : (2 : Int) ^ i ∣ 2 ^ 64 := by
    rw [show (64 : Nat) = i + (64 - i) by omega, Int.pow_add]; exact Int.dvd_mul_right _ _
  rw [hm]
  show IntKind.i64.wrap ((((BitVec.ofInt 64 x) &&& (BitVec.ofInt 64 ((2 ^ i - 1 : Nat) : Int))).toNat : Nat) : Int) = x % 2 ^ i
  simp only [BitVec.toNat_and, BitVec.toNat_ofInt, BitVec.ofInt_natCast, BitVec.toNat_ofNat, h64, Nat.and_two_pow_sub_one_eq_mod]
  have hx : 0 ≤ x % 2 ^ 64 := Int.emod_nonneg _ (by decide)
  have e : (((x % ((2 ^ 64 : Nat) : Int)).toNat % 2 ^ i : Nat) : Int) = x % 2 ^ i := by
    rw [Int.natCast_emod, show ((2 ^ 64 : Nat) : Int) = 2 ^ 64 from rfl, Int.toNat_of_nonneg hx, Int.natCast_pow]
    exact Int.emod_emod_of_dvd x hd
  rw [e]
  have hb1 : 0 ≤ x % 2 ^ i := Int.emod_nonneg _ (Int.ne_of_gt (Int.pow_pos (by decide)))
  have hb2 : x % 2 ^ i < 2 ^ i := Int.emod_lt_of_pos _ (Int.pow_pos (by decide))
  have hle2 : (2 : Int) ^ i ≤ 4611686018427387904 := by
    have := Int.ofNat_le.2 hle
    rw [Int.natCast_pow, Int.natCast_pow] at this
    exact this
  exact wrap_i64 (by omega) (by omega)
theorem right_size {t : Tr} (h : rightS t = true) : t.size = 1 ∨ t.size = 2 ∨ t.size = 3 ∨ t.size = 4 := by
  simp only [rightS, Bool.and_eq_true, decide_eq_true_eq] at h
  omega
/-- what an access may do: 0 nothing, 1 read, 3 read and write -/
def canN (ap : Int) (afe priv : Bool) : Int :=
  if afe = true then (if ap / 2 = 0 then (if priv = true then 3 else 0) else if ap / 2 = 1 then 3 else if ap / 2 = 2 then (if priv = true then 1 else 0) else 1)
  else if ap = 1 then (if priv = true then 3 else 0) else if ap = 2 then (if priv = true then 3 else 1) else if ap = 3 then 3 else if ap = 5 then (if priv = true then 1 else 0) else if ap = 6 ∨ ap = 7 then 1 else 0
def allowB (ap : Int) (xn afe priv : Bool) (kind : Int) : Bool :=
  decide (0 ≤ ap) && decide (ap ≤ 7) && (if kind = 1 then !decide (canN ap afe priv = 0) && !xn else if kind = 2 then !decide (canN ap afe priv = 0) else if kind = 3 then decide (canN ap afe priv = 3) else false)
def levelS (s : Int) : Int := if s = 1 ∨ s = 2 then 2 else if s = 3 ∨ s = 4 then 1 else 0
def checkS (t : Tr) (on afe : Bool) (da : Int) (priv : Bool) (kind : Int) : Ft :=
  if (on && rightS t) = false then Ft.zero
  else if (afe && decide (t.ap % 2 = 0)) = true then ⟨7, levelS t.size, t.dom⟩
  else if da / 4 ^ t.dom.toNat % 2 = 0 then ⟨8, levelS t.size, t.dom⟩
  else if (decide (da / 4 ^ t.dom.toNat % 4 = 1) && !allowB t.ap t.xn afe priv kind) = true then ⟨9, levelS t.size, t.dom⟩
  else Ft.zero
theorem can_or (ap : Int) (afe priv : Bool) : canN ap afe priv = 0 ∨ canN ap afe priv = 1 ∨ canN ap afe priv = 3 := by
  unfold canN
  repeat' split
  all_goals decide
theorem right_dom {t : Tr} (h : rightS t = true) : 0 ≤ t.dom ∧ t.dom ≤ 15 := by
  simp only [rightS, domOk, Bool.and_eq_true, decide_eq_true_eq] at h
  omega
theorem right_leaf {t : Tr} (h : rightS t = true) : 0 ≤ t.ap ∧ t.ap ≤ 7 := by
  simp only [rightS, leafOk, Bool.and_eq_true, decide_eq_true_eq] at h
  omega
def mayB (t : Tr) (on afe : Bool) (da : Int) (kind : Int) : Bool := decide ((checkS t on afe da false kind).kind = 0) && (decide ((checkS t on afe da false kind).level = 0) && decide ((checkS t on afe da false kind).dom = 0))
theorem all2_cons {α β : Type} {R : α → β → Prop} {c : α} {cs : List α} {ls : List β} (h : All2 R (c :: cs) ls) : ∃ l ls', ls = l :: ls' ∧ R c l ∧ All2 R cs ls' := by
  cases ls with
  | nil => exact h.elim
  | cons l r => exact ⟨l, r, rfl, h.1, h.2⟩
theorem all2_nil {α β : Type} {R : α → β → Prop} {ls : List β} (h : All2 R [] ls) : ls = [] := by
  cases ls with
  | nil => rfl
  | cons l r => exact h.elim
noncomputable def leafC : Con := ⟨22, fun args h => match args, h with
  | [.val (.agg [.int .i64 (.tm ap), .int .u32 (.tm bi), .bool (.tm ng), .bool (.tm xn)])], [] => some [⟨none, none, .det (.val (.one (.bool (.tm (leafOk ap bi))))) ([])⟩]
  | _, _ => none, true⟩
theorem leafC_p0 (ap bi : Int) (ng xn : Bool) : ∃ anns, fnVC Tryd.prog GTab (callOf Tryd.prog GTab []) anns Tryd.f22 ((Tryd.f22.body).getD .skip) [.val (.agg [.int .i64 (.tm ap), .int .u32 (.tm bi), .bool (.tm ng), .bool (.tm xn)])] [] ⟨none, none, .det (.val (.one (.bool (.tm (leafOk ap bi))))) ([])⟩ := by
  refine ⟨⟨[], [], [], [], [], [], []⟩, ?_⟩
  rw [show fnVC Tryd.prog GTab (callOf Tryd.prog GTab []) ⟨[], [], [], [], [], [], []⟩ Tryd.f22 ((Tryd.f22.body).getD .skip) [.val (.agg [.int .i64 (.tm ap), .int .u32 (.tm bi), .bool (.tm ng), .bool (.tm xn)])] [] ⟨none, none, .det (.val (.one (.bool (.tm (leafOk ap bi))))) ([])⟩ = (((!decide (ap < (0 : Int))) = true → (!decide (ap < (0 : Int))) = true) ∧ ((!decide (ap < (0 : Int))) = true → (!decide (ap < (0 : Int))) = true) ∧ ((!decide (ap < (0 : Int))) = true → (!decide (ap < (0 : Int))) = true) ∧ ((bif !decide (ap < (0 : Int)) then !decide ((7 : Int) < ap) else false) = true → (bif !decide (ap < (0 : Int)) then !decide ((7 : Int) < ap) else false) = true) ∧ ((bif !decide (ap < (0 : Int)) then !decide ((7 : Int) < ap) else false) = true → (bif !decide (ap < (0 : Int)) then !decide ((7 : Int) < ap) else false) = true) ∧ ((bif !decide (ap < (0 : Int)) then !decide ((7 : Int) < ap) else false) = true → (bif !decide (ap < (0 : Int)) then !decide ((7 : Int) < ap) else false) = true) ∧ (bif bif !decide (ap < (0 : Int)) then !decide ((7 : Int) < ap) else false then !decide ((63 : Int) < bi) else false) = leafOk ap bi) from by kernel_rfl]
  simp only [leafOk, dle]
  cases decide (ap < 0) <;> cases decide (7 < ap) <;> cases decide (63 < bi) <;> simp
theorem leafC_ch (ap bi : Int) (ng xn : Bool) : ∃ r ∈ ([⟨none, none, .det (.val (.one (.bool (.tm (leafOk ap bi))))) ([])⟩] : List Res), holdsP r.g ∧ (holdsP r.need → r.r.shaped [] ∧ ∃ anns, fnVC Tryd.prog GTab (callOf Tryd.prog GTab []) anns Tryd.f22 ((Tryd.f22.body).getD .skip) [.val (.agg [.int .i64 (.tm ap), .int .u32 (.tm bi), .bool (.tm ng), .bool (.tm xn)])] [] r) := by
  exact ⟨_, List.mem_cons_self, trivial, fun _ => ⟨trivial, leafC_p0 ap bi ng xn⟩⟩
theorem leafC_ok : leafC.ok Tryd.prog GTab := by
  refine con_ok (cs := []) (body := (Tryd.f22.body).getD .skip) ?_ Tryd.func22 rfl ?_
  · intro c h; cases h
  · intro args h l hl
    unfold leafC at hl
    dsimp only at hl
    split at hl
    · cases hl
      exact leafC_ch _ _ _ _
    · cases hl
noncomputable def placeC : Con := ⟨12, fun args h => match args, h with
  | [.val (.one (.int .u64 (.tm v))), .val (.one (.int .u64 (.tm n))), .val (.one (.int .u64 (.tm top)))], [] => some [⟨none, some (0 ≤ v ∧ v < 18446744073709551616 ∧ 0 ≤ n ∧ n < 64 ∧ 0 ≤ top ∧ top < 64), .det (.val (.one (.bool (.tm (placeOk v n.toNat top.toNat))))) ([])⟩]
  | _, _ => none, true⟩
theorem placeC_p0 (v n top : Int) (hn : 0 ≤ v ∧ v < 18446744073709551616 ∧ 0 ≤ n ∧ n < 64 ∧ 0 ≤ top ∧ top < 64) : ∃ anns, fnVC Tryd.prog GTab (callOf Tryd.prog GTab []) anns Tryd.f12 ((Tryd.f12.body).getD .skip) [.val (.one (.int .u64 (.tm v))), .val (.one (.int .u64 (.tm n))), .val (.one (.int .u64 (.tm top)))] [] ⟨none, some (0 ≤ v ∧ v < 18446744073709551616 ∧ 0 ≤ n ∧ n < 64 ∧ 0 ≤ top ∧ top < 64), .det (.val (.one (.bool (.tm (placeOk v n.toNat top.toNat))))) ([])⟩ := by
  refine ⟨⟨[], [], [], [], [], [], []⟩, ?_⟩
  rw [show fnVC Tryd.prog GTab (callOf Tryd.prog GTab []) ⟨[], [], [], [], [], [], []⟩ Tryd.f12 ((Tryd.f12.body).getD .skip) [.val (.one (.int .u64 (.tm v))), .val (.one (.int .u64 (.tm n))), .val (.one (.int .u64 (.tm top)))] [] ⟨none, some (0 ≤ v ∧ v < 18446744073709551616 ∧ 0 ≤ n ∧ n < 64 ∧ 0 ≤ top ∧ top < 64), .det (.val (.one (.bool (.tm (placeOk v n.toNat top.toNat))))) ([])⟩ = ((0 : Int) ≤ n ∧ (IntKind.u64.wrap ((1 : Int) * (↑((2 : Nat) ^ min n.toNat (64 : Nat)) : Int)) = (0 : Int) → False) ∧ ((decide (v.tmod (IntKind.u64.wrap ((1 : Int) * (↑((2 : Nat) ^ min n.toNat (64 : Nat)) : Int))) = (0 : Int)) = true → decide (v.tmod (IntKind.u64.wrap ((1 : Int) * (↑((2 : Nat) ^ min n.toNat (64 : Nat)) : Int))) = (0 : Int)) = true) ∧ (decide (v.tmod (IntKind.u64.wrap ((1 : Int) * (↑((2 : Nat) ^ min n.toNat (64 : Nat)) : Int))) = (0 : Int)) = true → (0 : Int) ≤ top)) ∧ ((decide (v.tmod (IntKind.u64.wrap ((1 : Int) * (↑((2 : Nat) ^ min n.toNat (64 : Nat)) : Int))) = (0 : Int)) = true → decide (v.tmod (IntKind.u64.wrap ((1 : Int) * (↑((2 : Nat) ^ min n.toNat (64 : Nat)) : Int))) = (0 : Int)) = true) ∧ (decide (v.tmod (IntKind.u64.wrap ((1 : Int) * (↑((2 : Nat) ^ min n.toNat (64 : Nat)) : Int))) = (0 : Int)) = true → decide (v.tmod (IntKind.u64.wrap ((1 : Int) * (↑((2 : Nat) ^ min n.toNat (64 : Nat)) : Int))) = (0 : Int)) = true)) ∧ (decide (v.tmod (IntKind.u64.wrap ((1 : Int) * (↑((2 : Nat) ^ min n.toNat (64 : Nat)) : Int))) = (0 : Int)) = true → decide (v.tmod (IntKind.u64.wrap ((1 : Int) * (↑((2 : Nat) ^ min n.toNat (64 : Nat)) : Int))) = (0 : Int)) = true) ∧ (bif decide (v.tmod (IntKind.u64.wrap ((1 : Int) * (↑((2 : Nat) ^ min n.toNat (64 : Nat)) : Int))) = (0 : Int)) then decide (v < IntKind.u64.wrap ((1 : Int) * (↑((2 : Nat) ^ min top.toNat (64 : Nat)) : Int))) else false) = placeOk v n.toNat top.toNat) from by kernel_rfl]
  obtain ⟨h0, h1, h2, h3, h4, h5⟩ := hn
  have hb : ∀ m : Int, 0 ≤ m → m < 64 → IntKind.u64.wrap (1 * ((2 ^ min m.toNat 64 : Nat) : Int)) = 2 ^ m.toNat := pow_wrap
  have hp : (0 : Int) < 2 ^ n.toNat := Int.pow_pos (by decide)
  rw [hb n h2 h3, hb top h4 h5, tmod_pos h0]
  refine ⟨h2, fun e => by omega, ⟨fun h => h, fun _ => h4⟩, ⟨fun h => h, fun h => h⟩, fun h => h, ?_⟩
  simp only [placeOk, bif_and]
theorem placeC_ch (v n top : Int) : ∃ r ∈ ([⟨none, some (0 ≤ v ∧ v < 18446744073709551616 ∧ 0 ≤ n ∧ n < 64 ∧ 0 ≤ top ∧ top < 64), .det (.val (.one (.bool (.tm (placeOk v n.toNat top.toNat))))) ([])⟩] : List Res), holdsP r.g ∧ (holdsP r.need → r.r.shaped [] ∧ ∃ anns, fnVC Tryd.prog GTab (callOf Tryd.prog GTab []) anns Tryd.f12 ((Tryd.f12.body).getD .skip) [.val (.one (.int .u64 (.tm v))), .val (.one (.int .u64 (.tm n))), .val (.one (.int .u64 (.tm top)))] [] r) := by
  exact ⟨_, List.mem_cons_self, trivial, fun hn => ⟨trivial, placeC_p0 v n top hn⟩⟩
theorem placeC_ok : placeC.ok Tryd.prog GTab := by
  refine con_ok (cs := []) (body := (Tryd.f12.body).getD .skip) ?_ Tryd.func12 rfl ?_
  · intro c h; cases h
  · intro args h l hl
    unfold placeC at hl
    dsimp only at hl
    split at hl
    · cases hl
      exact placeC_ch _ _ _
    · cases hl
noncomputable def domC : Con := ⟨13, fun args h => match args, h with
  | [.val (.one (.int .i64 (.tm d)))], [] => some [⟨none, none, .det (.val (.one (.bool (.tm (domOk d))))) ([])⟩]
  | _, _ => none, true⟩
theorem domC_p0 (d : Int) : ∃ anns, fnVC Tryd.prog GTab (callOf Tryd.prog GTab []) anns Tryd.f13 ((Tryd.f13.body).getD .skip) [.val (.one (.int .i64 (.tm d)))] [] ⟨none, none, .det (.val (.one (.bool (.tm (domOk d))))) ([])⟩ := by
  refine ⟨⟨[], [], [], [], [], [], []⟩, ?_⟩
  rw [show fnVC Tryd.prog GTab (callOf Tryd.prog GTab []) ⟨[], [], [], [], [], [], []⟩ Tryd.f13 ((Tryd.f13.body).getD .skip) [.val (.one (.int .i64 (.tm d)))] [] ⟨none, none, .det (.val (.one (.bool (.tm (domOk d))))) ([])⟩ = (((!decide (d < (0 : Int))) = true → (!decide (d < (0 : Int))) = true) ∧ ((!decide (d < (0 : Int))) = true → (!decide (d < (0 : Int))) = true) ∧ (bif !decide (d < (0 : Int)) then !decide ((15 : Int) < d) else false) = domOk d) from by kernel_rfl]
  simp only [domOk, dle]
  cases decide (d < 0) <;> cases decide (15 < d) <;> simp
theorem domC_ch (d : Int) : ∃ r ∈ ([⟨none, none, .det (.val (.one (.bool (.tm (domOk d))))) ([])⟩] : List Res), holdsP r.g ∧ (holdsP r.need → r.r.shaped [] ∧ ∃ anns, fnVC Tryd.prog GTab (callOf Tryd.prog GTab []) anns Tryd.f13 ((Tryd.f13.body).getD .skip) [.val (.one (.int .i64 (.tm d)))] [] r) := by
  exact ⟨_, List.mem_cons_self, trivial, fun _ => ⟨trivial, domC_p0 d⟩⟩
theorem domC_ok : domC.ok Tryd.prog GTab := by
  refine con_ok (cs := []) (body := (Tryd.f13.body).getD .skip) ?_ Tryd.func13 rfl ?_
  · intro c h; cases h
  · intro args h l hl
    unfold domC at hl
    dsimp only at hl
    split at hl
    · cases hl
      exact domC_ch _
    · cases hl
noncomputable def blockC : Con := ⟨14, fun args h => match args, h with
  | [.val (.agg [.int .i64 (.tm kd), .int .u64 (.tm bs), .int .i64 (.tm dm), .bool (.tm ns), .int .i64 (.tm ap), .int .u32 (.tm bi), .bool (.tm ng), .bool (.tm xn)]), .val (.one (.int .i64 (.tm s)))], [] => some [⟨none, some (0 ≤ bs ∧ bs < 18446744073709551616 ∧ 0 ≤ bi ∧ bi < 4294967296 ∧ 1 ≤ s ∧ s ≤ 4), .det (.val (.one (.bool (.tm (placeOk bs (shiftS s) (if s = 4 then 40 else 32) && leafOk ap bi))))) ([])⟩]
  | _, _ => none, true⟩
theorem blockC_p0 (kd bs dm ap bi : Int) (ns ng xn : Bool) (s : Int) (hn : 0 ≤ bs ∧ bs < 18446744073709551616 ∧ 0 ≤ bi ∧ bi < 4294967296 ∧ 1 ≤ s ∧ s ≤ 4) : ∃ anns, fnVC Tryd.prog GTab (callOf Tryd.prog GTab [placeC, leafC]) anns Tryd.f14 ((Tryd.f14.body).getD .skip) [.val (.agg [.int .i64 (.tm kd), .int .u64 (.tm bs), .int .i64 (.tm dm), .bool (.tm ns), .int .i64 (.tm ap), .int .u32 (.tm bi), .bool (.tm ng), .bool (.tm xn)]), .val (.one (.int .i64 (.tm s)))] [] ⟨none, some (0 ≤ bs ∧ bs < 18446744073709551616 ∧ 0 ≤ bi ∧ bi < 4294967296 ∧ 1 ≤ s ∧ s ≤ 4), .det (.val (.one (.bool (.tm (placeOk bs (shiftS s) (if s = 4 then 40 else 32) && leafOk ap bi))))) ([])⟩ := by
  refine ⟨⟨[], [], [], [], [], [], []⟩, ?_⟩
  rw [show fnVC Tryd.prog GTab (callOf Tryd.prog GTab [placeC, leafC]) ⟨[], [], [], [], [], [], []⟩ Tryd.f14 ((Tryd.f14.body).getD .skip) [.val (.agg [.int .i64 (.tm kd), .int .u64 (.tm bs), .int .i64 (.tm dm), .bool (.tm ns), .int .i64 (.tm ap), .int .u32 (.tm bi), .bool (.tm ng), .bool (.tm xn)]), .val (.one (.int .i64 (.tm s)))] [] ⟨none, some (0 ≤ bs ∧ bs < 18446744073709551616 ∧ 0 ≤ bi ∧ bi < 4294967296 ∧ 1 ≤ s ∧ s ≤ 4), .det (.val (.one (.bool (.tm (placeOk bs (shiftS s) (if s = 4 then 40 else 32) && leafOk ap bi))))) ([])⟩ = ((decide (s = (4 : Int)) = true → (s = (↑(nat_lit 0) : Int) → ((0 : Int) ≤ bs ∧ bs < (18446744073709551616 : Int) ∧ (0 : Int) ≤ (0 : Int) ∧ (0 : Int) < (64 : Int) ∧ (0 : Int) ≤ (40 : Int) ∧ (40 : Int) < (64 : Int)) ∧ (placeOk bs (0 : Nat) (40 : Nat) = true → placeOk bs (0 : Nat) (40 : Nat) = true) ∧ (placeOk bs (0 : Nat) (40 : Nat) = true → placeOk bs (0 : Nat) (40 : Nat) = true) ∧ (placeOk bs (0 : Nat) (40 : Nat) = true → placeOk bs (0 : Nat) (40 : Nat) = true) ∧ (bif placeOk bs (0 : Nat) (40 : Nat) then leafOk ap bi else false) = (placeOk bs (shiftS s) (if s = (4 : Int) then (40 : Nat) else (32 : Nat)) && leafOk ap bi)) ∧ (s = (↑(nat_lit 1) : Int) → ((0 : Int) ≤ bs ∧ bs < (18446744073709551616 : Int) ∧ (0 : Int) ≤ (12 : Int) ∧ (12 : Int) < (64 : Int) ∧ (0 : Int) ≤ (40 : Int) ∧ (40 : Int) < (64 : Int)) ∧ (placeOk bs (12 : Nat) (40 : Nat) = true → placeOk bs (12 : Nat) (40 : Nat) = true) ∧ (placeOk bs (12 : Nat) (40 : Nat) = true → placeOk bs (12 : Nat) (40 : Nat) = true) ∧ (placeOk bs (12 : Nat) (40 : Nat) = true → placeOk bs (12 : Nat) (40 : Nat) = true) ∧ (bif placeOk bs (12 : Nat) (40 : Nat) then leafOk ap bi else false) = (placeOk bs (shiftS s) (if s = (4 : Int) then (40 : Nat) else (32 : Nat)) && leafOk ap bi)) ∧ (s = (↑(nat_lit 2) : Int) → ((0 : Int) ≤ bs ∧ bs < (18446744073709551616 : Int) ∧ (0 : Int) ≤ (16 : Int) ∧ (16 : Int) < (64 : Int) ∧ (0 : Int) ≤ (40 : Int) ∧ (40 : Int) < (64 : Int)) ∧ (placeOk bs (16 : Nat) (40 : Nat) = true → placeOk bs (16 : Nat) (40 : Nat) = true) ∧ (placeOk bs (16 : Nat) (40 : Nat) = true → placeOk bs (16 : Nat) (40 : Nat) = true) ∧ (placeOk bs (16 : Nat) (40 : Nat) = true → placeOk bs (16 : Nat) (40 : Nat) = true) ∧ (bif placeOk bs (16 : Nat) (40 : Nat) then leafOk ap bi else false) = (placeOk bs (shiftS s) (if s = (4 : Int) then (40 : Nat) else (32 : Nat)) && leafOk ap bi)) ∧ (s = (↑(nat_lit 3) : Int) → ((0 : Int) ≤ bs ∧ bs < (18446744073709551616 : Int) ∧ (0 : Int) ≤ (20 : Int) ∧ (20 : Int) < (64 : Int) ∧ (0 : Int) ≤ (40 : Int) ∧ (40 : Int) < (64 : Int)) ∧ (placeOk bs (20 : Nat) (40 : Nat) = true → placeOk bs (20 : Nat) (40 : Nat) = true) ∧ (placeOk bs (20 : Nat) (40 : Nat) = true → placeOk bs (20 : Nat) (40 : Nat) = true) ∧ (placeOk bs (20 : Nat) (40 : Nat) = true → placeOk bs (20 : Nat) (40 : Nat) = true) ∧ (bif placeOk bs (20 : Nat) (40 : Nat) then leafOk ap bi else false) = (placeOk bs (shiftS s) (if s = (4 : Int) then (40 : Nat) else (32 : Nat)) && leafOk ap bi)) ∧ (s = (↑(nat_lit 4) : Int) → ((0 : Int) ≤ bs ∧ bs < (18446744073709551616 : Int) ∧ (0 : Int) ≤ (24 : Int) ∧ (24 : Int) < (64 : Int) ∧ (0 : Int) ≤ (40 : Int) ∧ (40 : Int) < (64 : Int)) ∧ (placeOk bs (24 : Nat) (40 : Nat) = true → placeOk bs (24 : Nat) (40 : Nat) = true) ∧ (placeOk bs (24 : Nat) (40 : Nat) = true → placeOk bs (24 : Nat) (40 : Nat) = true) ∧ (placeOk bs (24 : Nat) (40 : Nat) = true → placeOk bs (24 : Nat) (40 : Nat) = true) ∧ (bif placeOk bs (24 : Nat) (40 : Nat) then leafOk ap bi else false) = (placeOk bs (shiftS s) (if s = (4 : Int) then (40 : Nat) else (32 : Nat)) && leafOk ap bi)) ∧ (((0 : Int) ≤ s ∧ s < (↑(5 : Nat) : Int) → False) → False ∧ False)) ∧ (decide (s = (4 : Int)) = false → (s = (↑(nat_lit 0) : Int) → ((0 : Int) ≤ bs ∧ bs < (18446744073709551616 : Int) ∧ (0 : Int) ≤ (0 : Int) ∧ (0 : Int) < (64 : Int) ∧ (0 : Int) ≤ (32 : Int) ∧ (32 : Int) < (64 : Int)) ∧ (placeOk bs (0 : Nat) (32 : Nat) = true → placeOk bs (0 : Nat) (32 : Nat) = true) ∧ (placeOk bs (0 : Nat) (32 : Nat) = true → placeOk bs (0 : Nat) (32 : Nat) = true) ∧ (placeOk bs (0 : Nat) (32 : Nat) = true → placeOk bs (0 : Nat) (32 : Nat) = true) ∧ (bif placeOk bs (0 : Nat) (32 : Nat) then leafOk ap bi else false) = (placeOk bs (shiftS s) (if s = (4 : Int) then (40 : Nat) else (32 : Nat)) && leafOk ap bi)) ∧ (s = (↑(nat_lit 1) : Int) → ((0 : Int) ≤ bs ∧ bs < (18446744073709551616 : Int) ∧ (0 : Int) ≤ (12 : Int) ∧ (12 : Int) < (64 : Int) ∧ (0 : Int) ≤ (32 : Int) ∧ (32 : Int) < (64 : Int)) ∧ (placeOk bs (12 : Nat) (32 : Nat) = true → placeOk bs (12 : Nat) (32 : Nat) = true) ∧ (placeOk bs (12 : Nat) (32 : Nat) = true → placeOk bs (12 : Nat) (32 : Nat) = true) ∧ (placeOk bs (12 : Nat) (32 : Nat) = true → placeOk bs (12 : Nat) (32 : Nat) = true) ∧ (bif placeOk bs (12 : Nat) (32 : Nat) then leafOk ap bi else false) = (placeOk bs (shiftS s) (if s = (4 : Int) then (40 : Nat) else (32 : Nat)) && leafOk ap bi)) ∧ (s = (↑(nat_lit 2) : Int) → ((0 : Int) ≤ bs ∧ bs < (18446744073709551616 : Int) ∧ (0 : Int) ≤ (16 : Int) ∧ (16 : Int) < (64 : Int) ∧ (0 : Int) ≤ (32 : Int) ∧ (32 : Int) < (64 : Int)) ∧ (placeOk bs (16 : Nat) (32 : Nat) = true → placeOk bs (16 : Nat) (32 : Nat) = true) ∧ (placeOk bs (16 : Nat) (32 : Nat) = true → placeOk bs (16 : Nat) (32 : Nat) = true) ∧ (placeOk bs (16 : Nat) (32 : Nat) = true → placeOk bs (16 : Nat) (32 : Nat) = true) ∧ (bif placeOk bs (16 : Nat) (32 : Nat) then leafOk ap bi else false) = (placeOk bs (shiftS s) (if s = (4 : Int) then (40 : Nat) else (32 : Nat)) && leafOk ap bi)) ∧ (s = (↑(nat_lit 3) : Int) → ((0 : Int) ≤ bs ∧ bs < (18446744073709551616 : Int) ∧ (0 : Int) ≤ (20 : Int) ∧ (20 : Int) < (64 : Int) ∧ (0 : Int) ≤ (32 : Int) ∧ (32 : Int) < (64 : Int)) ∧ (placeOk bs (20 : Nat) (32 : Nat) = true → placeOk bs (20 : Nat) (32 : Nat) = true) ∧ (placeOk bs (20 : Nat) (32 : Nat) = true → placeOk bs (20 : Nat) (32 : Nat) = true) ∧ (placeOk bs (20 : Nat) (32 : Nat) = true → placeOk bs (20 : Nat) (32 : Nat) = true) ∧ (bif placeOk bs (20 : Nat) (32 : Nat) then leafOk ap bi else false) = (placeOk bs (shiftS s) (if s = (4 : Int) then (40 : Nat) else (32 : Nat)) && leafOk ap bi)) ∧ (s = (↑(nat_lit 4) : Int) → ((0 : Int) ≤ bs ∧ bs < (18446744073709551616 : Int) ∧ (0 : Int) ≤ (24 : Int) ∧ (24 : Int) < (64 : Int) ∧ (0 : Int) ≤ (32 : Int) ∧ (32 : Int) < (64 : Int)) ∧ (placeOk bs (24 : Nat) (32 : Nat) = true → placeOk bs (24 : Nat) (32 : Nat) = true) ∧ (placeOk bs (24 : Nat) (32 : Nat) = true → placeOk bs (24 : Nat) (32 : Nat) = true) ∧ (placeOk bs (24 : Nat) (32 : Nat) = true → placeOk bs (24 : Nat) (32 : Nat) = true) ∧ (bif placeOk bs (24 : Nat) (32 : Nat) then leafOk ap bi else false) = (placeOk bs (shiftS s) (if s = (4 : Int) then (40 : Nat) else (32 : Nat)) && leafOk ap bi)) ∧ (((0 : Int) ≤ s ∧ s < (↑(5 : Nat) : Int) → False) → False ∧ False))) from by kernel_rfl]
  obtain ⟨h0, h1, h2, h3, h4, h5⟩ := hn
  have hs : s = 1 ∨ s = 2 ∨ s = 3 ∨ s = 4 := by omega
  rcases hs with rfl | rfl | rfl | rfl <;> simp [h0, h1, shiftS, bif_and]
theorem blockC_ch (kd bs dm ap bi : Int) (ns ng xn : Bool) (s : Int) : ∃ r ∈ ([⟨none, some (0 ≤ bs ∧ bs < 18446744073709551616 ∧ 0 ≤ bi ∧ bi < 4294967296 ∧ 1 ≤ s ∧ s ≤ 4), .det (.val (.one (.bool (.tm (placeOk bs (shiftS s) (if s = 4 then 40 else 32) && leafOk ap bi))))) ([])⟩] : List Res), holdsP r.g ∧ (holdsP r.need → r.r.shaped [] ∧ ∃ anns, fnVC Tryd.prog GTab (callOf Tryd.prog GTab [placeC, leafC]) anns Tryd.f14 ((Tryd.f14.body).getD .skip) [.val (.agg [.int .i64 (.tm kd), .int .u64 (.tm bs), .int .i64 (.tm dm), .bool (.tm ns), .int .i64 (.tm ap), .int .u32 (.tm bi), .bool (.tm ng), .bool (.tm xn)]), .val (.one (.int .i64 (.tm s)))] [] r) := by
  exact ⟨_, List.mem_cons_self, trivial, fun hn => ⟨trivial, blockC_p0 kd bs dm ap bi ns ng xn s hn⟩⟩
theorem blockC_ok : blockC.ok Tryd.prog GTab := by
  refine con_ok (cs := [placeC, leafC]) (body := (Tryd.f14.body).getD .skip) ?_ Tryd.func14 rfl ?_
  · intro c h
    simp only [List.mem_cons, List.not_mem_nil, or_false] at h
    rcases h with rfl | rfl
    · exact placeC_ok
    · exact leafC_ok
  · intro args h l hl
    unfold blockC at hl
    dsimp only at hl
    split at hl
    · cases hl
      exact blockC_ch _ _ _ _ _ _ _ _ _
    · cases hl
noncomputable def sizedC : Con := ⟨11, fun args h => match args, h with
  | [.val (.one (.int .i64 (.tm s)))], [] => some [⟨none, none, .det (.val (.one (.bool (.tm (decide (1 ≤ s) && decide (s ≤ 4)))))) ([])⟩]
  | _, _ => none, true⟩
theorem sizedC_p0 (s : Int) : ∃ anns, fnVC Tryd.prog GTab (callOf Tryd.prog GTab []) anns Tryd.f11 ((Tryd.f11.body).getD .skip) [.val (.one (.int .i64 (.tm s)))] [] ⟨none, none, .det (.val (.one (.bool (.tm (decide (1 ≤ s) && decide (s ≤ 4)))))) ([])⟩ := by
  refine ⟨⟨[], [], [], [], [], [], []⟩, ?_⟩
  rw [show fnVC Tryd.prog GTab (callOf Tryd.prog GTab []) ⟨[], [], [], [], [], [], []⟩ Tryd.f11 ((Tryd.f11.body).getD .skip) [.val (.one (.int .i64 (.tm s)))] [] ⟨none, none, .det (.val (.one (.bool (.tm (decide (1 ≤ s) && decide (s ≤ 4)))))) ([])⟩ = (((!decide (s < (1 : Int))) = true → (!decide (s < (1 : Int))) = true) ∧ ((!decide (s < (1 : Int))) = true → (!decide (s < (1 : Int))) = true) ∧ (bif !decide (s < (1 : Int)) then !decide ((4 : Int) < s) else false) = (decide ((1 : Int) ≤ s) && decide (s ≤ (4 : Int)))) from by kernel_rfl]
  simp only [dle]
  cases decide (s < 1) <;> cases decide (4 < s) <;> simp
theorem sizedC_ch (s : Int) : ∃ r ∈ ([⟨none, none, .det (.val (.one (.bool (.tm (decide (1 ≤ s) && decide (s ≤ 4)))))) ([])⟩] : List Res), holdsP r.g ∧ (holdsP r.need → r.r.shaped [] ∧ ∃ anns, fnVC Tryd.prog GTab (callOf Tryd.prog GTab []) anns Tryd.f11 ((Tryd.f11.body).getD .skip) [.val (.one (.int .i64 (.tm s)))] [] r) := by
  exact ⟨_, List.mem_cons_self, trivial, fun _ => ⟨trivial, sizedC_p0 s⟩⟩
theorem sizedC_ok : sizedC.ok Tryd.prog GTab := by
  refine con_ok (cs := []) (body := (Tryd.f11.body).getD .skip) ?_ Tryd.func11 rfl ?_
  · intro c h; cases h
  · intro args h l hl
    unfold sizedC at hl
    dsimp only at hl
    split at hl
    · cases hl
      exact sizedC_ch _
    · cases hl
noncomputable def rightC : Con := ⟨6, fun args h => match args, h with
  | [.val (.agg [.int .i64 (.tm sz), .int .u32 (.tm va), .int .u64 (.tm pa), .int .i64 (.tm dm), .int .i64 (.tm ap), .int .u32 (.tm bi), .bool (.tm ng), .bool (.tm xn)])], [] => some [⟨none, some (0 ≤ va ∧ va < 4294967296 ∧ 0 ≤ pa ∧ pa < 18446744073709551616 ∧ 0 ≤ bi ∧ bi < 4294967296), .det (.val (.one (.bool (.tm (rightS (Tr.mk sz va pa dm ap bi ng xn)))))) ([])⟩]
  | _, _ => none, true⟩
theorem rightC_p0 (sz va pa dm ap bi : Int) (ng xn : Bool) (hn : 0 ≤ va ∧ va < 4294967296 ∧ 0 ≤ pa ∧ pa < 18446744073709551616 ∧ 0 ≤ bi ∧ bi < 4294967296) : ∃ anns, fnVC Tryd.prog GTab (callOf Tryd.prog GTab [sizedC, placeC, domC, blockC]) anns Tryd.f6 ((Tryd.f6.body).getD .skip) [.val (.agg [.int .i64 (.tm sz), .int .u32 (.tm va), .int .u64 (.tm pa), .int .i64 (.tm dm), .int .i64 (.tm ap), .int .u32 (.tm bi), .bool (.tm ng), .bool (.tm xn)])] [] ⟨none, some (0 ≤ va ∧ va < 4294967296 ∧ 0 ≤ pa ∧ pa < 18446744073709551616 ∧ 0 ≤ bi ∧ bi < 4294967296), .det (.val (.one (.bool (.tm (rightS (Tr.mk sz va pa dm ap bi ng xn)))))) ([])⟩ := by
  refine ⟨⟨[], [], [], [], [], [], []⟩, ?_⟩
  rw [show fnVC Tryd.prog GTab (callOf Tryd.prog GTab [sizedC, placeC, domC, blockC]) ⟨[], [], [], [], [], [], []⟩ Tryd.f6 ((Tryd.f6.body).getD .skip) [.val (.agg [.int .i64 (.tm sz), .int .u32 (.tm va), .int .u64 (.tm pa), .int .i64 (.tm dm), .int .i64 (.tm ap), .int .u32 (.tm bi), .bool (.tm ng), .bool (.tm xn)])] [] ⟨none, some (0 ≤ va ∧ va < 4294967296 ∧ 0 ≤ pa ∧ pa < 18446744073709551616 ∧ 0 ≤ bi ∧ bi < 4294967296), .det (.val (.one (.bool (.tm (rightS (Tr.mk sz va pa dm ap bi ng xn)))))) ([])⟩ = (((!!(decide ((1 : Int) ≤ sz) && decide (sz ≤ (4 : Int)))) = true → (!!(decide ((1 : Int) ≤ sz) && decide (sz ≤ (4 : Int)))) = true) ∧ ((!!(decide ((1 : Int) ≤ sz) && decide (sz ≤ (4 : Int)))) = true → (!!(decide ((1 : Int) ≤ sz) && decide (sz ≤ (4 : Int)))) = true) ∧ ((!!(decide ((1 : Int) ≤ sz) && decide (sz ≤ (4 : Int)))) = true → (!!(decide ((1 : Int) ≤ sz) && decide (sz ≤ (4 : Int)))) = true) ∧ ((!(decide ((1 : Int) ≤ sz) && decide (sz ≤ (4 : Int)))) = true → false = rightS (Tr.mk sz va pa dm ap bi ng xn)) ∧ ((!(decide ((1 : Int) ≤ sz) && decide (sz ≤ (4 : Int)))) = false → (sz = (↑(nat_lit 0) : Int) → (!!(decide ((1 : Int) ≤ sz) && decide (sz ≤ (4 : Int)))) = true ∧ ((!!(decide ((1 : Int) ≤ sz) && decide (sz ≤ (4 : Int)))) = true ∧ (0 : Int) ≤ IntKind.u64.wrap va ∧ IntKind.u64.wrap va < (18446744073709551616 : Int) ∧ (0 : Int) ≤ (0 : Int) ∧ (0 : Int) < (64 : Int) ∧ (0 : Int) ≤ (32 : Int) ∧ (32 : Int) < (64 : Int)) ∧ ((!!placeOk (IntKind.u64.wrap va) (0 : Nat) (32 : Nat)) = true → (!!placeOk (IntKind.u64.wrap va) (0 : Nat) (32 : Nat)) = true) ∧ ((!!placeOk (IntKind.u64.wrap va) (0 : Nat) (32 : Nat)) = true → (!!placeOk (IntKind.u64.wrap va) (0 : Nat) (32 : Nat)) = true) ∧ ((!!placeOk (IntKind.u64.wrap va) (0 : Nat) (32 : Nat)) = true → (!!placeOk (IntKind.u64.wrap va) (0 : Nat) (32 : Nat)) = true) ∧ ((!placeOk (IntKind.u64.wrap va) (0 : Nat) (32 : Nat)) = false → (!!placeOk (IntKind.u64.wrap va) (0 : Nat) (32 : Nat)) = true) ∧ ((!bif !placeOk (IntKind.u64.wrap va) (0 : Nat) (32 : Nat) then true else !domOk dm) = true → (!bif !placeOk (IntKind.u64.wrap va) (0 : Nat) (32 : Nat) then true else !domOk dm) = true) ∧ ((!bif !placeOk (IntKind.u64.wrap va) (0 : Nat) (32 : Nat) then true else !domOk dm) = true → (!bif !placeOk (IntKind.u64.wrap va) (0 : Nat) (32 : Nat) then true else !domOk dm) = true) ∧ ((!bif !placeOk (IntKind.u64.wrap va) (0 : Nat) (32 : Nat) then true else !domOk dm) = true → (!bif !placeOk (IntKind.u64.wrap va) (0 : Nat) (32 : Nat) then true else !domOk dm) = true) ∧ (((!bif !placeOk (IntKind.u64.wrap va) (0 : Nat) (32 : Nat) then true else !domOk dm) && decide (sz = (4 : Int))) = true → ((!bif !placeOk (IntKind.u64.wrap va) (0 : Nat) (32 : Nat) then true else !domOk dm) && decide (sz = (4 : Int))) = true) ∧ (((!bif !placeOk (IntKind.u64.wrap va) (0 : Nat) (32 : Nat) then true else !domOk dm) && decide (sz = (4 : Int))) = true → ((!bif !placeOk (IntKind.u64.wrap va) (0 : Nat) (32 : Nat) then true else !domOk dm) && decide (sz = (4 : Int))) = true) ∧ (((!bif !placeOk (IntKind.u64.wrap va) (0 : Nat) (32 : Nat) then true else !domOk dm) = true → (!bif !placeOk (IntKind.u64.wrap va) (0 : Nat) (32 : Nat) then true else !domOk dm) = true) ∧ ((!bif !placeOk (IntKind.u64.wrap va) (0 : Nat) (32 : Nat) then true else !domOk dm) = true → decide (sz = (4 : Int)) = true → ((!bif !placeOk (IntKind.u64.wrap va) (0 : Nat) (32 : Nat) then true else !domOk dm) && decide (sz = (4 : Int))) = true)) ∧ ((bif !placeOk (IntKind.u64.wrap va) (0 : Nat) (32 : Nat) then true else !domOk dm) = false → (!bif !placeOk (IntKind.u64.wrap va) (0 : Nat) (32 : Nat) then true else !domOk dm) = true) ∧ ((bif bif !placeOk (IntKind.u64.wrap va) (0 : Nat) (32 : Nat) then true else !domOk dm then true else bif decide (sz = (4 : Int)) then !decide (dm = (0 : Int)) else false) = true → false = rightS (Tr.mk sz va pa dm ap bi ng xn)) ∧ ((bif bif !placeOk (IntKind.u64.wrap va) (0 : Nat) (32 : Nat) then true else !domOk dm then true else bif decide (sz = (4 : Int)) then !decide (dm = (0 : Int)) else false) = false → ((0 : Int) ≤ pa ∧ pa < (18446744073709551616 : Int) ∧ (0 : Int) ≤ bi ∧ bi < (4294967296 : Int) ∧ (1 : Int) ≤ sz ∧ sz ≤ (4 : Int)) ∧ (placeOk pa (shiftS sz) (if sz = (4 : Int) then (40 : Nat) else (32 : Nat)) && leafOk ap bi) = rightS (Tr.mk sz va pa dm ap bi ng xn))) ∧ (sz = (↑(nat_lit 1) : Int) → (!!(decide ((1 : Int) ≤ sz) && decide (sz ≤ (4 : Int)))) = true ∧ ((!!(decide ((1 : Int) ≤ sz) && decide (sz ≤ (4 : Int)))) = true ∧ (0 : Int) ≤ IntKind.u64.wrap va ∧ IntKind.u64.wrap va < (18446744073709551616 : Int) ∧ (0 : Int) ≤ (12 : Int) ∧ (12 : Int) < (64 : Int) ∧ (0 : Int) ≤ (32 : Int) ∧ (32 : Int) < (64 : Int)) ∧ ((!!placeOk (IntKind.u64.wrap va) (12 : Nat) (32 : Nat)) = true → (!!placeOk (IntKind.u64.wrap va) (12 : Nat) (32 : Nat)) = true) ∧ ((!!placeOk (IntKind.u64.wrap va) (12 : Nat) (32 : Nat)) = true → (!!placeOk (IntKind.u64.wrap va) (12 : Nat) (32 : Nat)) = true) ∧ ((!!placeOk (IntKind.u64.wrap va) (12 : Nat) (32 : Nat)) = true → (!!placeOk (IntKind.u64.wrap va) (12 : Nat) (32 : Nat)) = true) ∧ ((!placeOk (IntKind.u64.wrap va) (12 : Nat) (32 : Nat)) = false → (!!placeOk (IntKind.u64.wrap va) (12 : Nat) (32 : Nat)) = true) ∧ ((!bif !placeOk (IntKind.u64.wrap va) (12 : Nat) (32 : Nat) then true else !domOk dm) = true → (!bif !placeOk (IntKind.u64.wrap va) (12 : Nat) (32 : Nat) then true else !domOk dm) = true) ∧ ((!bif !placeOk (IntKind.u64.wrap va) (12 : Nat) (32 : Nat) then true else !domOk dm) = true → (!bif !placeOk (IntKind.u64.wrap va) (12 : Nat) (32 : Nat) then true else !domOk dm) = true) ∧ ((!bif !placeOk (IntKind.u64.wrap va) (12 : Nat) (32 : Nat) then true else !domOk dm) = true → (!bif !placeOk (IntKind.u64.wrap va) (12 : Nat) (32 : Nat) then true else !domOk dm) = true) ∧ (((!bif !placeOk (IntKind.u64.wrap va) (12 : Nat) (32 : Nat) then true else !domOk dm) && decide (sz = (4 : Int))) = true → ((!bif !placeOk (IntKind.u64.wrap va) (12 : Nat) (32 : Nat) then true else !domOk dm) && decide (sz = (4 : Int))) = true) ∧ (((!bif !placeOk (IntKind.u64.wrap va) (12 : Nat) (32 : Nat) then true else !domOk dm) && decide (sz = (4 : Int))) = true → ((!bif !placeOk (IntKind.u64.wrap va) (12 : Nat) (32 : Nat) then true else !domOk dm) && decide (sz = (4 : Int))) = true) ∧ (((!bif !placeOk (IntKind.u64.wrap va) (12 : Nat) (32 : Nat) then true else !domOk dm) = true → (!bif !placeOk (IntKind.u64.wrap va) (12 : Nat) (32 : Nat) then true else !domOk dm) = true) ∧ ((!bif !placeOk (IntKind.u64.wrap va) (12 : Nat) (32 : Nat) then true else !domOk dm) = true → decide (sz = (4 : Int)) = true → ((!bif !placeOk (IntKind.u64.wrap va) (12 : Nat) (32 : Nat) then true else !domOk dm) && decide (sz = (4 : Int))) = true)) ∧ ((bif !placeOk (IntKind.u64.wrap va) (12 : Nat) (32 : Nat) then true else !domOk dm) = false → (!bif !placeOk (IntKind.u64.wrap va) (12 : Nat) (32 : Nat) then true else !domOk dm) = true) ∧ ((bif bif !placeOk (IntKind.u64.wrap va) (12 : Nat) (32 : Nat) then true else !domOk dm then true else bif decide (sz = (4 : Int)) then !decide (dm = (0 : Int)) else false) = true → false = rightS (Tr.mk sz va pa dm ap bi ng xn)) ∧ ((bif bif !placeOk (IntKind.u64.wrap va) (12 : Nat) (32 : Nat) then true else !domOk dm then true else bif decide (sz = (4 : Int)) then !decide (dm = (0 : Int)) else false) = false → ((0 : Int) ≤ pa ∧ pa < (18446744073709551616 : Int) ∧ (0 : Int) ≤ bi ∧ bi < (4294967296 : Int) ∧ (1 : Int) ≤ sz ∧ sz ≤ (4 : Int)) ∧ (placeOk pa (shiftS sz) (if sz = (4 : Int) then (40 : Nat) else (32 : Nat)) && leafOk ap bi) = rightS (Tr.mk sz va pa dm ap bi ng xn))) ∧ (sz = (↑(nat_lit 2) : Int) → (!!(decide ((1 : Int) ≤ sz) && decide (sz ≤ (4 : Int)))) = true ∧ ((!!(decide ((1 : Int) ≤ sz) && decide (sz ≤ (4 : Int)))) = true ∧ (0 : Int) ≤ IntKind.u64.wrap va ∧ IntKind.u64.wrap va < (18446744073709551616 : Int) ∧ (0 : Int) ≤ (16 : Int) ∧ (16 : Int) < (64 : Int) ∧ (0 : Int) ≤ (32 : Int) ∧ (32 : Int) < (64 : Int)) ∧ ((!!placeOk (IntKind.u64.wrap va) (16 : Nat) (32 : Nat)) = true → (!!placeOk (IntKind.u64.wrap va) (16 : Nat) (32 : Nat)) = true) ∧ ((!!placeOk (IntKind.u64.wrap va) (16 : Nat) (32 : Nat)) = true → (!!placeOk (IntKind.u64.wrap va) (16 : Nat) (32 : Nat)) = true) ∧ ((!!placeOk (IntKind.u64.wrap va) (16 : Nat) (32 : Nat)) = true → (!!placeOk (IntKind.u64.wrap va) (16 : Nat) (32 : Nat)) = true) ∧ ((!placeOk (IntKind.u64.wrap va) (16 : Nat) (32 : Nat)) = false → (!!placeOk (IntKind.u64.wrap va) (16 : Nat) (32 : Nat)) = true) ∧ ((!bif !placeOk (IntKind.u64.wrap va) (16 : Nat) (32 : Nat) then true else !domOk dm) = true → (!bif !placeOk (IntKind.u64.wrap va) (16 : Nat) (32 : Nat) then true else !domOk dm) = true) ∧ ((!bif !placeOk (IntKind.u64.wrap va) (16 : Nat) (32 : Nat) then true else !domOk dm) = true → (!bif !placeOk (IntKind.u64.wrap va) (16 : Nat) (32 : Nat) then true else !domOk dm) = true) ∧ ((!bif !placeOk (IntKind.u64.wrap va) (16 : Nat) (32 : Nat) then true else !domOk dm) = true → (!bif !placeOk (IntKind.u64.wrap va) (16 : Nat) (32 : Nat) then true else !domOk dm) = true) ∧ (((!bif !placeOk (IntKind.u64.wrap va) (16 : Nat) (32 : Nat) then true else !domOk dm) && decide (sz = (4 : Int))) = true → ((!bif !placeOk (IntKind.u64.wrap va) (16 : Nat) (32 : Nat) then true else !domOk dm) && decide (sz = (4 : Int))) = true) ∧ (((!bif !placeOk (IntKind.u64.wrap va) (16 : Nat) (32 : Nat) then true else !domOk dm) && decide (sz = (4 : Int))) = true → ((!bif !placeOk (IntKind.u64.wrap va) (16 : Nat) (32 : Nat) then true else !domOk dm) && decide (sz = (4 : Int))) = true) ∧ (((!bif !placeOk (IntKind.u64.wrap va) (16 : Nat) (32 : Nat) then true else !domOk dm) = true → (!bif !placeOk (IntKind.u64.wrap va) (16 : Nat) (32 : Nat) then true else !domOk dm) = true) ∧ ((!bif !placeOk (IntKind.u64.wrap va) (16 : Nat) (32 : Nat) then true else !domOk dm) = true → decide (sz = (4 : Int)) = true → ((!bif !placeOk (IntKind.u64.wrap va) (16 : Nat) (32 : Nat) then true else !domOk dm) && decide (sz = (4 : Int))) = true)) ∧ ((bif !placeOk (IntKind.u64.wrap va) (16 : Nat) (32 : Nat) then true else !domOk dm) = false → (!bif !placeOk (IntKind.u64.wrap va) (16 : Nat) (32 : Nat) then true else !domOk dm) = true) ∧ ((bif bif !placeOk (IntKind.u64.wrap va) (16 : Nat) (32 : Nat) then true else !domOk dm then true else bif decide (sz = (4 : Int)) then !decide (dm = (0 : Int)) else false) = true → false = rightS (Tr.mk sz va pa dm ap bi ng xn)) ∧ ((bif bif !placeOk (IntKind.u64.wrap va) (16 : Nat) (32 : Nat) then true else !domOk dm then true else bif decide (sz = (4 : Int)) then !decide (dm = (0 : Int)) else false) = false → ((0 : Int) ≤ pa ∧ pa < (18446744073709551616 : Int) ∧ (0 : Int) ≤ bi ∧ bi < (4294967296 : Int) ∧ (1 : Int) ≤ sz ∧ sz ≤ (4 : Int)) ∧ (placeOk pa (shiftS sz) (if sz = (4 : Int) then (40 : Nat) else (32 : Nat)) && leafOk ap bi) = rightS (Tr.mk sz va pa dm ap bi ng xn))) ∧ (sz = (↑(nat_lit 3) : Int) → (!!(decide ((1 : Int) ≤ sz) && decide (sz ≤ (4 : Int)))) = true ∧ ((!!(decide ((1 : Int) ≤ sz) && decide (sz ≤ (4 : Int)))) = true ∧ (0 : Int) ≤ IntKind.u64.wrap va ∧ IntKind.u64.wrap va < (18446744073709551616 : Int) ∧ (0 : Int) ≤ (20 : Int) ∧ (20 : Int) < (64 : Int) ∧ (0 : Int) ≤ (32 : Int) ∧ (32 : Int) < (64 : Int)) ∧ ((!!placeOk (IntKind.u64.wrap va) (20 : Nat) (32 : Nat)) = true → (!!placeOk (IntKind.u64.wrap va) (20 : Nat) (32 : Nat)) = true) ∧ ((!!placeOk (IntKind.u64.wrap va) (20 : Nat) (32 : Nat)) = true → (!!placeOk (IntKind.u64.wrap va) (20 : Nat) (32 : Nat)) = true) ∧ ((!!placeOk (IntKind.u64.wrap va) (20 : Nat) (32 : Nat)) = true → (!!placeOk (IntKind.u64.wrap va) (20 : Nat) (32 : Nat)) = true) ∧ ((!placeOk (IntKind.u64.wrap va) (20 : Nat) (32 : Nat)) = false → (!!placeOk (IntKind.u64.wrap va) (20 : Nat) (32 : Nat)) = true) ∧ ((!bif !placeOk (IntKind.u64.wrap va) (20 : Nat) (32 : Nat) then true else !domOk dm) = true → (!bif !placeOk (IntKind.u64.wrap va) (20 : Nat) (32 : Nat) then true else !domOk dm) = true) ∧ ((!bif !placeOk (IntKind.u64.wrap va) (20 : Nat) (32 : Nat) then true else !domOk dm) = true → (!bif !placeOk (IntKind.u64.wrap va) (20 : Nat) (32 : Nat) then true else !domOk dm) = true) ∧ ((!bif !placeOk (IntKind.u64.wrap va) (20 : Nat) (32 : Nat) then true else !domOk dm) = true → (!bif !placeOk (IntKind.u64.wrap va) (20 : Nat) (32 : Nat) then true else !domOk dm) = true) ∧ (((!bif !placeOk (IntKind.u64.wrap va) (20 : Nat) (32 : Nat) then true else !domOk dm) && decide (sz = (4 : Int))) = true → ((!bif !placeOk (IntKind.u64.wrap va) (20 : Nat) (32 : Nat) then true else !domOk dm) && decide (sz = (4 : Int))) = true) ∧ (((!bif !placeOk (IntKind.u64.wrap va) (20 : Nat) (32 : Nat) then true else !domOk dm) && decide (sz = (4 : Int))) = true → ((!bif !placeOk (IntKind.u64.wrap va) (20 : Nat) (32 : Nat) then true else !domOk dm) && decide (sz = (4 : Int))) = true) ∧ (((!bif !placeOk (IntKind.u64.wrap va) (20 : Nat) (32 : Nat) then true else !domOk dm) = true → (!bif !placeOk (IntKind.u64.wrap va) (20 : Nat) (32 : Nat) then true else !domOk dm) = true) ∧ ((!bif !placeOk (IntKind.u64.wrap va) (20 : Nat) (32 : Nat) then true else !domOk dm) = true → decide (sz = (4 : Int)) = true → ((!bif !placeOk (IntKind.u64.wrap va) (20 : Nat) (32 : Nat) then true else !domOk dm) && decide (sz = (4 : Int))) = true)) ∧ ((bif !placeOk (IntKind.u64.wrap va) (20 : Nat) (32 : Nat) then true else !domOk dm) = false → (!bif !placeOk (IntKind.u64.wrap va) (20 : Nat) (32 : Nat) then true else !domOk dm) = true) ∧ ((bif bif !placeOk (IntKind.u64.wrap va) (20 : Nat) (32 : Nat) then true else !domOk dm then true else bif decide (sz = (4 : Int)) then !decide (dm = (0 : Int)) else false) = true → false = rightS (Tr.mk sz va pa dm ap bi ng xn)) ∧ ((bif bif !placeOk (IntKind.u64.wrap va) (20 : Nat) (32 : Nat) then true else !domOk dm then true else bif decide (sz = (4 : Int)) then !decide (dm = (0 : Int)) else false) = false → ((0 : Int) ≤ pa ∧ pa < (18446744073709551616 : Int) ∧ (0 : Int) ≤ bi ∧ bi < (4294967296 : Int) ∧ (1 : Int) ≤ sz ∧ sz ≤ (4 : Int)) ∧ (placeOk pa (shiftS sz) (if sz = (4 : Int) then (40 : Nat) else (32 : Nat)) && leafOk ap bi) = rightS (Tr.mk sz va pa dm ap bi ng xn))) ∧ (sz = (↑(nat_lit 4) : Int) → (!!(decide ((1 : Int) ≤ sz) && decide (sz ≤ (4 : Int)))) = true ∧ ((!!(decide ((1 : Int) ≤ sz) && decide (sz ≤ (4 : Int)))) = true ∧ (0 : Int) ≤ IntKind.u64.wrap va ∧ IntKind.u64.wrap va < (18446744073709551616 : Int) ∧ (0 : Int) ≤ (24 : Int) ∧ (24 : Int) < (64 : Int) ∧ (0 : Int) ≤ (32 : Int) ∧ (32 : Int) < (64 : Int)) ∧ ((!!placeOk (IntKind.u64.wrap va) (24 : Nat) (32 : Nat)) = true → (!!placeOk (IntKind.u64.wrap va) (24 : Nat) (32 : Nat)) = true) ∧ ((!!placeOk (IntKind.u64.wrap va) (24 : Nat) (32 : Nat)) = true → (!!placeOk (IntKind.u64.wrap va) (24 : Nat) (32 : Nat)) = true) ∧ ((!!placeOk (IntKind.u64.wrap va) (24 : Nat) (32 : Nat)) = true → (!!placeOk (IntKind.u64.wrap va) (24 : Nat) (32 : Nat)) = true) ∧ ((!placeOk (IntKind.u64.wrap va) (24 : Nat) (32 : Nat)) = false → (!!placeOk (IntKind.u64.wrap va) (24 : Nat) (32 : Nat)) = true) ∧ ((!bif !placeOk (IntKind.u64.wrap va) (24 : Nat) (32 : Nat) then true else !domOk dm) = true → (!bif !placeOk (IntKind.u64.wrap va) (24 : Nat) (32 : Nat) then true else !domOk dm) = true) ∧ ((!bif !placeOk (IntKind.u64.wrap va) (24 : Nat) (32 : Nat) then true else !domOk dm) = true → (!bif !placeOk (IntKind.u64.wrap va) (24 : Nat) (32 : Nat) then true else !domOk dm) = true) ∧ ((!bif !placeOk (IntKind.u64.wrap va) (24 : Nat) (32 : Nat) then true else !domOk dm) = true → (!bif !placeOk (IntKind.u64.wrap va) (24 : Nat) (32 : Nat) then true else !domOk dm) = true) ∧ (((!bif !placeOk (IntKind.u64.wrap va) (24 : Nat) (32 : Nat) then true else !domOk dm) && decide (sz = (4 : Int))) = true → ((!bif !placeOk (IntKind.u64.wrap va) (24 : Nat) (32 : Nat) then true else !domOk dm) && decide (sz = (4 : Int))) = true) ∧ (((!bif !placeOk (IntKind.u64.wrap va) (24 : Nat) (32 : Nat) then true else !domOk dm) && decide (sz = (4 : Int))) = true → ((!bif !placeOk (IntKind.u64.wrap va) (24 : Nat) (32 : Nat) then true else !domOk dm) && decide (sz = (4 : Int))) = true) ∧ (((!bif !placeOk (IntKind.u64.wrap va) (24 : Nat) (32 : Nat) then true else !domOk dm) = true → (!bif !placeOk (IntKind.u64.wrap va) (24 : Nat) (32 : Nat) then true else !domOk dm) = true) ∧ ((!bif !placeOk (IntKind.u64.wrap va) (24 : Nat) (32 : Nat) then true else !domOk dm) = true → decide (sz = (4 : Int)) = true → ((!bif !placeOk (IntKind.u64.wrap va) (24 : Nat) (32 : Nat) then true else !domOk dm) && decide (sz = (4 : Int))) = true)) ∧ ((bif !placeOk (IntKind.u64.wrap va) (24 : Nat) (32 : Nat) then true else !domOk dm) = false → (!bif !placeOk (IntKind.u64.wrap va) (24 : Nat) (32 : Nat) then true else !domOk dm) = true) ∧ ((bif bif !placeOk (IntKind.u64.wrap va) (24 : Nat) (32 : Nat) then true else !domOk dm then true else bif decide (sz = (4 : Int)) then !decide (dm = (0 : Int)) else false) = true → false = rightS (Tr.mk sz va pa dm ap bi ng xn)) ∧ ((bif bif !placeOk (IntKind.u64.wrap va) (24 : Nat) (32 : Nat) then true else !domOk dm then true else bif decide (sz = (4 : Int)) then !decide (dm = (0 : Int)) else false) = false → ((0 : Int) ≤ pa ∧ pa < (18446744073709551616 : Int) ∧ (0 : Int) ≤ bi ∧ bi < (4294967296 : Int) ∧ (1 : Int) ≤ sz ∧ sz ≤ (4 : Int)) ∧ (placeOk pa (shiftS sz) (if sz = (4 : Int) then (40 : Nat) else (32 : Nat)) && leafOk ap bi) = rightS (Tr.mk sz va pa dm ap bi ng xn))) ∧ (((0 : Int) ≤ sz ∧ sz < (↑(5 : Nat) : Int) → False) → ((!!(decide ((1 : Int) ≤ sz) && decide (sz ≤ (4 : Int)))) = true ∧ False) ∧ False))) from by kernel_rfl]
  obtain ⟨h0, h1, h2, h3, h4, h5⟩ := hn
  have ev : IntKind.u64.wrap va = va := wrap_u64 (by omega) (by omega)
  rw [ev]
  simp only [bif_and, bif_or, rightS]
  have ho : 1 ≤ sz ∧ sz ≤ 4 ∨ ¬ (1 ≤ sz ∧ sz ≤ 4) := Classical.em _
  rcases ho with ho | ho
  · have hs : sz = 1 ∨ sz = 2 ∨ sz = 3 ∨ sz = 4 := by omega
    have hv : va < 18446744073709551616 := by omega
    rcases hs with rfl | rfl | rfl | rfl <;> (cases domOk dm <;> cases leafOk ap bi <;> simp [shiftS, h0, h2, h3, h4, h5, hv, Bool.and_comm, Bool.and_left_comm] <;> (try (intro q q1 q2; rcases q with q | q <;> simp_all; done)) <;> (try (intros; simp_all; done)) <;> (try (by_cases hdm : dm = 0 <;> by_cases hpl : placeOk va 24 32 = true <;> simp [hdm, hpl]; done)))
  · have e : (decide (1 ≤ sz) && decide (sz ≤ 4)) = false := by
      cases h : (decide (1 ≤ sz) && decide (sz ≤ 4)) with
      | false => rfl
      | true => simp at h; exact absurd h ho
    rw [e]
    simp
theorem rightC_ch (sz va pa dm ap bi : Int) (ng xn : Bool) : ∃ r ∈ ([⟨none, some (0 ≤ va ∧ va < 4294967296 ∧ 0 ≤ pa ∧ pa < 18446744073709551616 ∧ 0 ≤ bi ∧ bi < 4294967296), .det (.val (.one (.bool (.tm (rightS (Tr.mk sz va pa dm ap bi ng xn)))))) ([])⟩] : List Res), holdsP r.g ∧ (holdsP r.need → r.r.shaped [] ∧ ∃ anns, fnVC Tryd.prog GTab (callOf Tryd.prog GTab [sizedC, placeC, domC, blockC]) anns Tryd.f6 ((Tryd.f6.body).getD .skip) [.val (.agg [.int .i64 (.tm sz), .int .u32 (.tm va), .int .u64 (.tm pa), .int .i64 (.tm dm), .int .i64 (.tm ap), .int .u32 (.tm bi), .bool (.tm ng), .bool (.tm xn)])] [] r) := by
  exact ⟨_, List.mem_cons_self, trivial, fun hn => ⟨trivial, rightC_p0 sz va pa dm ap bi ng xn hn⟩⟩
theorem rightC_ok : rightC.ok Tryd.prog GTab := by
  refine con_ok (cs := [sizedC, placeC, domC, blockC]) (body := (Tryd.f6.body).getD .skip) ?_ Tryd.func6 rfl ?_
  · intro c h
    simp only [List.mem_cons, List.not_mem_nil, or_false] at h
    rcases h with rfl | rfl | rfl | rfl
    · exact sizedC_ok
    · exact placeC_ok
    · exact domC_ok
    · exact blockC_ok
  · intro args h l hl
    unfold rightC at hl
    dsimp only at hl
    split at hl
    · cases hl
      exact rightC_ch _ _ _ _ _ _ _ _
    · cases hl
noncomputable def powC : Con := ⟨24, fun args h => match args, h with
  | [.val (.one (.int .i64 (.tm n)))], [] => some [⟨none, some (0 ≤ n ∧ n < 64), .det (.val (.one (.int .u64 (.tm (2 ^ n.toNat))))) ([])⟩]
  | _, _ => none, true⟩
theorem powC_p0 (n : Int) (hn : 0 ≤ n ∧ n < 64) : ∃ anns, fnVC Tryd.prog GTab (callOf Tryd.prog GTab []) anns Tryd.f24 ((Tryd.f24.body).getD .skip) [.val (.one (.int .i64 (.tm n)))] [] ⟨none, some (0 ≤ n ∧ n < 64), .det (.val (.one (.int .u64 (.tm (2 ^ n.toNat))))) ([])⟩ := by
  refine ⟨⟨[⟨Nat, fun σ x => setT [(3, .val (.one (.int .u64 (.tm (2 ^ x))))), (4, .val (.one (.int .i64 (.tm ((x : Int))))))] σ, fun σ x => x ≤ n.toNat, fun x => n.toNat - x⟩], [], [], [], [], [], []⟩, ?_⟩
  rw [show fnVC Tryd.prog GTab (callOf Tryd.prog GTab []) ⟨[⟨Nat, fun σ x => setT [(3, .val (.one (.int .u64 (.tm (2 ^ x))))), (4, .val (.one (.int .i64 (.tm ((x : Int))))))] σ, fun σ x => x ≤ n.toNat, fun x => n.toNat - x⟩], [], [], [], [], [], []⟩ Tryd.f24 ((Tryd.f24.body).getD .skip) [.val (.one (.int .i64 (.tm n)))] [] ⟨none, some (0 ≤ n ∧ n < 64), .det (.val (.one (.int .u64 (.tm (2 ^ n.toNat))))) ([])⟩ = ((∃ (x : Nat), x ≤ n.toNat ∧ n = n ∧ (1 : Int) = (2 : Int) ^ x ∧ (0 : Int) = (↑x : Int)) ∧ ∀ (x : Nat), x ≤ n.toNat → (decide ((↑x : Int) < n) = true → ∃ (y : Nat), y ≤ n.toNat ∧ n.toNat - y < n.toNat - x ∧ n = n ∧ IntKind.u64.wrap ((2 : Int) * (2 : Int) ^ x) = (2 : Int) ^ y ∧ IntKind.i64.wrap ((↑x : Int) + (1 : Int)) = (↑y : Int)) ∧ (decide ((↑x : Int) < n) = false → (2 : Int) ^ x = (2 : Int) ^ n.toNat)) from by kernel_rfl]
  obtain ⟨h0, h1⟩ := hn
  refine ⟨⟨0, Nat.zero_le _, rfl, rfl, rfl⟩, fun x hx => ⟨fun hlt => ?_, fun hge => ?_⟩⟩
  · have hlt := of_decide_eq_true hlt
    have hp := pow_lt (n := x + 1) (m := 64) (by omega)
    refine ⟨x + 1, by omega, by omega, rfl, ?_, ?_⟩
    · rw [Int.pow_succ] at hp ⊢
      have := Int.pow_pos (n := 2) (m := x) (by decide)
      rw [wrap_u64 (by omega) (by omega), Int.mul_comm]
    · rw [wrap_i64 (by omega) (by omega)]; rfl
  · have hge := of_decide_eq_false hge
    have : x = n.toNat := by omega
    rw [this]
theorem powC_ch (n : Int) : ∃ r ∈ ([⟨none, some (0 ≤ n ∧ n < 64), .det (.val (.one (.int .u64 (.tm (2 ^ n.toNat))))) ([])⟩] : List Res), holdsP r.g ∧ (holdsP r.need → r.r.shaped [] ∧ ∃ anns, fnVC Tryd.prog GTab (callOf Tryd.prog GTab []) anns Tryd.f24 ((Tryd.f24.body).getD .skip) [.val (.one (.int .i64 (.tm n)))] [] r) := by
  exact ⟨_, List.mem_cons_self, trivial, fun hn => ⟨trivial, powC_p0 n hn⟩⟩
theorem powC_ok : powC.ok Tryd.prog GTab := by
  refine con_ok (cs := []) (body := (Tryd.f24.body).getD .skip) ?_ Tryd.func24 rfl ?_
  · intro c h; cases h
  · intro args h l hl
    unfold powC at hl
    dsimp only at hl
    split at hl
    · cases hl
      exact powC_ch _
    · cases hl
noncomputable def rleafC : Con := ⟨19, fun args h => match args, h with
  | [.val (.agg [.int .i64 (.tm ap), .int .u32 (.tm bi), .bool (.tm ng), .bool (.tm xn)])], [] => some [⟨none, none, .det (.val (.one (.bool (.tm (leafOk ap bi))))) ([])⟩]
  | _, _ => none, true⟩
theorem rleafC_p0 (ap bi : Int) (ng xn : Bool) : ∃ anns, fnVC Tryd.prog GTab (callOf Tryd.prog GTab []) anns Tryd.f19 ((Tryd.f19.body).getD .skip) [.val (.agg [.int .i64 (.tm ap), .int .u32 (.tm bi), .bool (.tm ng), .bool (.tm xn)])] [] ⟨none, none, .det (.val (.one (.bool (.tm (leafOk ap bi))))) ([])⟩ := by
  refine ⟨⟨[], [], [], [], [], [], []⟩, ?_⟩
  rw [show fnVC Tryd.prog GTab (callOf Tryd.prog GTab []) ⟨[], [], [], [], [], [], []⟩ Tryd.f19 ((Tryd.f19.body).getD .skip) [.val (.agg [.int .i64 (.tm ap), .int .u32 (.tm bi), .bool (.tm ng), .bool (.tm xn)])] [] ⟨none, none, .det (.val (.one (.bool (.tm (leafOk ap bi))))) ([])⟩ = (((!decide (ap < (0 : Int))) = true → (!decide (ap < (0 : Int))) = true) ∧ ((!decide (ap < (0 : Int))) = true → (!decide (ap < (0 : Int))) = true) ∧ ((!decide (ap < (0 : Int))) = true → (!decide (ap < (0 : Int))) = true) ∧ ((bif !decide (ap < (0 : Int)) then !decide ((7 : Int) < ap) else false) = true → (bif !decide (ap < (0 : Int)) then !decide ((7 : Int) < ap) else false) = true) ∧ ((bif !decide (ap < (0 : Int)) then !decide ((7 : Int) < ap) else false) = true → (bif !decide (ap < (0 : Int)) then !decide ((7 : Int) < ap) else false) = true) ∧ ((bif !decide (ap < (0 : Int)) then !decide ((7 : Int) < ap) else false) = true → (bif !decide (ap < (0 : Int)) then !decide ((7 : Int) < ap) else false) = true) ∧ (bif bif !decide (ap < (0 : Int)) then !decide ((7 : Int) < ap) else false then !decide ((63 : Int) < bi) else false) = leafOk ap bi) from by kernel_rfl]
  simp only [leafOk, dle]
  cases decide (ap < 0) <;> cases decide (7 < ap) <;> cases decide (63 < bi) <;> simp
theorem rleafC_ch (ap bi : Int) (ng xn : Bool) : ∃ r ∈ ([⟨none, none, .det (.val (.one (.bool (.tm (leafOk ap bi))))) ([])⟩] : List Res), holdsP r.g ∧ (holdsP r.need → r.r.shaped [] ∧ ∃ anns, fnVC Tryd.prog GTab (callOf Tryd.prog GTab []) anns Tryd.f19 ((Tryd.f19.body).getD .skip) [.val (.agg [.int .i64 (.tm ap), .int .u32 (.tm bi), .bool (.tm ng), .bool (.tm xn)])] [] r) := by
  exact ⟨_, List.mem_cons_self, trivial, fun _ => ⟨trivial, rleafC_p0 ap bi ng xn⟩⟩
theorem rleafC_ok : rleafC.ok Tryd.prog GTab := by
  refine con_ok (cs := []) (body := (Tryd.f19.body).getD .skip) ?_ Tryd.func19 rfl ?_
  · intro c h; cases h
  · intro args h l hl
    unfold rleafC at hl
    dsimp only at hl
    split at hl
    · cases hl
      exact rleafC_ch _ _ _ _
    · cases hl
noncomputable def rplaceC : Con := ⟨18, fun args h => match args, h with
  | [.val (.one (.int .u64 (.tm v))), .val (.one (.int .i64 (.tm n))), .val (.one (.int .i64 (.tm top)))], [] => some [⟨none, some (0 ≤ v ∧ v < 18446744073709551616 ∧ 0 ≤ n ∧ n < 64 ∧ 0 ≤ top ∧ top < 64), .det (.val (.one (.bool (.tm (placeOk v n.toNat top.toNat))))) ([])⟩]
  | _, _ => none, true⟩
theorem rplaceC_p0 (v n top : Int) (hn : 0 ≤ v ∧ v < 18446744073709551616 ∧ 0 ≤ n ∧ n < 64 ∧ 0 ≤ top ∧ top < 64) : ∃ anns, fnVC Tryd.prog GTab (callOf Tryd.prog GTab [powC]) anns Tryd.f18 ((Tryd.f18.body).getD .skip) [.val (.one (.int .u64 (.tm v))), .val (.one (.int .i64 (.tm n))), .val (.one (.int .i64 (.tm top)))] [] ⟨none, some (0 ≤ v ∧ v < 18446744073709551616 ∧ 0 ≤ n ∧ n < 64 ∧ 0 ≤ top ∧ top < 64), .det (.val (.one (.bool (.tm (placeOk v n.toNat top.toNat))))) ([])⟩ := by
  refine ⟨⟨[], [], [], [], [], [], []⟩, ?_⟩
  rw [show fnVC Tryd.prog GTab (callOf Tryd.prog GTab [powC]) ⟨[], [], [], [], [], [], []⟩ Tryd.f18 ((Tryd.f18.body).getD .skip) [.val (.one (.int .u64 (.tm v))), .val (.one (.int .i64 (.tm n))), .val (.one (.int .i64 (.tm top)))] [] ⟨none, some (0 ≤ v ∧ v < 18446744073709551616 ∧ 0 ≤ n ∧ n < 64 ∧ 0 ≤ top ∧ top < 64), .det (.val (.one (.bool (.tm (placeOk v n.toNat top.toNat))))) ([])⟩ = (((0 : Int) ≤ n ∧ n < (64 : Int)) ∧ ((2 : Int) ^ n.toNat = (0 : Int) → False) ∧ ((decide (v.tmod ((2 : Int) ^ n.toNat) = (0 : Int)) = true → decide (v.tmod ((2 : Int) ^ n.toNat) = (0 : Int)) = true) ∧ (decide (v.tmod ((2 : Int) ^ n.toNat) = (0 : Int)) = true → (0 : Int) ≤ top ∧ top < (64 : Int))) ∧ ((decide (v.tmod ((2 : Int) ^ n.toNat) = (0 : Int)) = true → decide (v.tmod ((2 : Int) ^ n.toNat) = (0 : Int)) = true) ∧ (decide (v.tmod ((2 : Int) ^ n.toNat) = (0 : Int)) = true → decide (v.tmod ((2 : Int) ^ n.toNat) = (0 : Int)) = true)) ∧ (decide (v.tmod ((2 : Int) ^ n.toNat) = (0 : Int)) = true → decide (v.tmod ((2 : Int) ^ n.toNat) = (0 : Int)) = true) ∧ (bif decide (v.tmod ((2 : Int) ^ n.toNat) = (0 : Int)) then decide (v < (2 : Int) ^ top.toNat) else false) = placeOk v n.toNat top.toNat) from by kernel_rfl]
  obtain ⟨h0, h1, h2, h3, h4, h5⟩ := hn
  have hp : (0 : Int) < 2 ^ n.toNat := Int.pow_pos (by decide)
  rw [tmod_pos h0]
  refine ⟨⟨h2, h3⟩, fun e => by omega, ⟨fun h => h, fun _ => ⟨h4, h5⟩⟩, ⟨fun h => h, fun h => h⟩, fun h => h, ?_⟩
  simp only [placeOk, bif_and]
theorem rplaceC_ch (v n top : Int) : ∃ r ∈ ([⟨none, some (0 ≤ v ∧ v < 18446744073709551616 ∧ 0 ≤ n ∧ n < 64 ∧ 0 ≤ top ∧ top < 64), .det (.val (.one (.bool (.tm (placeOk v n.toNat top.toNat))))) ([])⟩] : List Res), holdsP r.g ∧ (holdsP r.need → r.r.shaped [] ∧ ∃ anns, fnVC Tryd.prog GTab (callOf Tryd.prog GTab [powC]) anns Tryd.f18 ((Tryd.f18.body).getD .skip) [.val (.one (.int .u64 (.tm v))), .val (.one (.int .i64 (.tm n))), .val (.one (.int .i64 (.tm top)))] [] r) := by
  exact ⟨_, List.mem_cons_self, trivial, fun hn => ⟨trivial, rplaceC_p0 v n top hn⟩⟩
theorem rplaceC_ok : rplaceC.ok Tryd.prog GTab := by
  refine con_ok (cs := [powC]) (body := (Tryd.f18.body).getD .skip) ?_ Tryd.func18 rfl ?_
  · intro c h
    simp only [List.mem_cons, List.not_mem_nil, or_false] at h
    rcases h with rfl
    · exact powC_ok
  · intro args h l hl
    unfold rplaceC at hl
    dsimp only at hl
    split at hl
    · cases hl
      exact rplaceC_ch _ _ _
    · cases hl
noncomputable def rshiftC : Con := ⟨17, fun args h => match args, h with
  | [.val (.one (.int .i64 (.tm s)))], [] => some [⟨none, none, .det (.val (.one (.int .i64 (.tm ((shiftS s : Int)))))) ([])⟩]
  | _, _ => none, true⟩
theorem rshiftC_p0 (s : Int) : ∃ anns, fnVC Tryd.prog GTab (callOf Tryd.prog GTab []) anns Tryd.f17 ((Tryd.f17.body).getD .skip) [.val (.one (.int .i64 (.tm s)))] [] ⟨none, none, .det (.val (.one (.int .i64 (.tm ((shiftS s : Int)))))) ([])⟩ := by
  refine ⟨⟨[], [], [], [], [], [], []⟩, ?_⟩
  rw [show fnVC Tryd.prog GTab (callOf Tryd.prog GTab []) ⟨[], [], [], [], [], [], []⟩ Tryd.f17 ((Tryd.f17.body).getD .skip) [.val (.one (.int .i64 (.tm s)))] [] ⟨none, none, .det (.val (.one (.int .i64 (.tm ((shiftS s : Int)))))) ([])⟩ = (((!decide (s < (1 : Int))) = true → (!decide (s < (1 : Int))) = true) ∧ (decide (s < (1 : Int)) = false → (!decide (s < (1 : Int))) = true) ∧ ((bif decide (s < (1 : Int)) then true else decide ((4 : Int) < s)) = true → (0 : Int) = (↑(shiftS s) : Int)) ∧ ((bif decide (s < (1 : Int)) then true else decide ((4 : Int) < s)) = false → IntKind.i64.wrap ((8 : Int) + IntKind.i64.wrap ((4 : Int) * s)) = (↑(shiftS s) : Int))) from by kernel_rfl]
  have hs : s = 1 ∨ s = 2 ∨ s = 3 ∨ s = 4 ∨ (s < 1 ∨ 4 < s) := by omega
  rcases hs with rfl | rfl | rfl | rfl | h
  iterate 4 (simp [shiftS, IntKind.wrap, IntKind.bits, IntKind.signed])
  have e2 : shiftS s = 0 := by unfold shiftS; rw [if_neg (by omega), if_neg (by omega), if_neg (by omega), if_neg (by omega)]
  rw [e2]
  refine ⟨id, fun h => by rw [h]; rfl, fun _ => rfl, fun hb => ?_⟩
  rcases h with h | h
  · rw [decide_eq_true h] at hb; cases hb
  · rw [decide_eq_false (by omega : ¬ s < 1), decide_eq_true h] at hb; cases hb
theorem rshiftC_ch (s : Int) : ∃ r ∈ ([⟨none, none, .det (.val (.one (.int .i64 (.tm ((shiftS s : Int)))))) ([])⟩] : List Res), holdsP r.g ∧ (holdsP r.need → r.r.shaped [] ∧ ∃ anns, fnVC Tryd.prog GTab (callOf Tryd.prog GTab []) anns Tryd.f17 ((Tryd.f17.body).getD .skip) [.val (.one (.int .i64 (.tm s)))] [] r) := by
  exact ⟨_, List.mem_cons_self, trivial, fun _ => ⟨trivial, rshiftC_p0 s⟩⟩
theorem rshiftC_ok : rshiftC.ok Tryd.prog GTab := by
  refine con_ok (cs := []) (body := (Tryd.f17.body).getD .skip) ?_ Tryd.func17 rfl ?_
  · intro c h; cases h
  · intro args h l hl
    unfold rshiftC at hl
    dsimp only at hl
    split at hl
    · cases hl
      exact rshiftC_ch _
    · cases hl
noncomputable def rrightC : Con := ⟨9, fun args h => match args, h with
  | [.val (.agg [.int .i64 (.tm sz), .int .u32 (.tm va), .int .u64 (.tm pa), .int .i64 (.tm dm), .int .i64 (.tm ap), .int .u32 (.tm bi), .bool (.tm ng), .bool (.tm xn)])], [] => some [⟨none, some (0 ≤ va ∧ va < 4294967296 ∧ 0 ≤ pa ∧ pa < 18446744073709551616 ∧ 0 ≤ bi ∧ bi < 4294967296), .det (.val (.one (.bool (.tm (rightS (Tr.mk sz va pa dm ap bi ng xn)))))) ([])⟩]
  | _, _ => none, true⟩
theorem rrightC_p0 (sz va pa dm ap bi : Int) (ng xn : Bool) (hn : 0 ≤ va ∧ va < 4294967296 ∧ 0 ≤ pa ∧ pa < 18446744073709551616 ∧ 0 ≤ bi ∧ bi < 4294967296) : ∃ anns, fnVC Tryd.prog GTab (callOf Tryd.prog GTab [rshiftC, rplaceC, rleafC]) anns Tryd.f9 ((Tryd.f9.body).getD .skip) [.val (.agg [.int .i64 (.tm sz), .int .u32 (.tm va), .int .u64 (.tm pa), .int .i64 (.tm dm), .int .i64 (.tm ap), .int .u32 (.tm bi), .bool (.tm ng), .bool (.tm xn)])] [] ⟨none, some (0 ≤ va ∧ va < 4294967296 ∧ 0 ≤ pa ∧ pa < 18446744073709551616 ∧ 0 ≤ bi ∧ bi < 4294967296), .det (.val (.one (.bool (.tm (rightS (Tr.mk sz va pa dm ap bi ng xn)))))) ([])⟩ := by
  refine ⟨⟨[], [], [], [], [], [], []⟩, ?_⟩
  rw [show fnVC Tryd.prog GTab (callOf Tryd.prog GTab [rshiftC, rplaceC, rleafC]) ⟨[], [], [], [], [], [], []⟩ Tryd.f9 ((Tryd.f9.body).getD .skip) [.val (.agg [.int .i64 (.tm sz), .int .u32 (.tm va), .int .u64 (.tm pa), .int .i64 (.tm dm), .int .i64 (.tm ap), .int .u32 (.tm bi), .bool (.tm ng), .bool (.tm xn)])] [] ⟨none, some (0 ≤ va ∧ va < 4294967296 ∧ 0 ≤ pa ∧ pa < 18446744073709551616 ∧ 0 ≤ bi ∧ bi < 4294967296), .det (.val (.one (.bool (.tm (rightS (Tr.mk sz va pa dm ap bi ng xn)))))) ([])⟩ = (((!decide ((↑(shiftS sz) : Int) = (0 : Int))) = true → (!decide ((↑(shiftS sz) : Int) = (0 : Int))) = true) ∧ ((!decide ((↑(shiftS sz) : Int) = (0 : Int))) = true → (!decide ((↑(shiftS sz) : Int) = (0 : Int))) = true) ∧ ((((!decide ((↑(shiftS sz) : Int) = (0 : Int))) = true → (!decide ((↑(shiftS sz) : Int) = (0 : Int))) = true) ∧ ((!decide ((↑(shiftS sz) : Int) = (0 : Int))) = true → (!decide ((↑(shiftS sz) : Int) = (0 : Int))) = true)) ∧ ((!decide ((↑(shiftS sz) : Int) = (0 : Int))) = true → (0 : Int) ≤ IntKind.u64.wrap va ∧ IntKind.u64.wrap va < (18446744073709551616 : Int) ∧ (0 : Int) ≤ (↑(shiftS sz) : Int) ∧ (↑(shiftS sz) : Int) < (64 : Int) ∧ (0 : Int) ≤ (32 : Int) ∧ (32 : Int) < (64 : Int))) ∧ ((!decide ((↑(shiftS sz) : Int) = (0 : Int))) = true → (!decide ((↑(shiftS sz) : Int) = (0 : Int))) = true) ∧ (decide ((↑(shiftS sz) : Int) = (0 : Int)) = false → (!decide ((↑(shiftS sz) : Int) = (0 : Int))) = true) ∧ ((!bif decide ((↑(shiftS sz) : Int) = (0 : Int)) then true else !placeOk (IntKind.u64.wrap va) (↑(shiftS sz) : Int).toNat (32 : Nat)) = true → (!bif decide ((↑(shiftS sz) : Int) = (0 : Int)) then true else !placeOk (IntKind.u64.wrap va) (↑(shiftS sz) : Int).toNat (32 : Nat)) = true) ∧ ((!bif decide ((↑(shiftS sz) : Int) = (0 : Int)) then true else !placeOk (IntKind.u64.wrap va) (↑(shiftS sz) : Int).toNat (32 : Nat)) = true → (!bif decide ((↑(shiftS sz) : Int) = (0 : Int)) then true else !placeOk (IntKind.u64.wrap va) (↑(shiftS sz) : Int).toNat (32 : Nat)) = true) ∧ ((!bif decide ((↑(shiftS sz) : Int) = (0 : Int)) then true else !placeOk (IntKind.u64.wrap va) (↑(shiftS sz) : Int).toNat (32 : Nat)) = true → (!bif decide ((↑(shiftS sz) : Int) = (0 : Int)) then true else !placeOk (IntKind.u64.wrap va) (↑(shiftS sz) : Int).toNat (32 : Nat)) = true) ∧ ((bif decide ((↑(shiftS sz) : Int) = (0 : Int)) then true else !placeOk (IntKind.u64.wrap va) (↑(shiftS sz) : Int).toNat (32 : Nat)) = false → (!bif decide ((↑(shiftS sz) : Int) = (0 : Int)) then true else !placeOk (IntKind.u64.wrap va) (↑(shiftS sz) : Int).toNat (32 : Nat)) = true) ∧ ((!bif bif decide ((↑(shiftS sz) : Int) = (0 : Int)) then true else !placeOk (IntKind.u64.wrap va) (↑(shiftS sz) : Int).toNat (32 : Nat) then true else !leafOk ap bi) = true → (!bif bif decide ((↑(shiftS sz) : Int) = (0 : Int)) then true else !placeOk (IntKind.u64.wrap va) (↑(shiftS sz) : Int).toNat (32 : Nat) then true else !leafOk ap bi) = true) ∧ ((!bif bif decide ((↑(shiftS sz) : Int) = (0 : Int)) then true else !placeOk (IntKind.u64.wrap va) (↑(shiftS sz) : Int).toNat (32 : Nat) then true else !leafOk ap bi) = true → (!bif bif decide ((↑(shiftS sz) : Int) = (0 : Int)) then true else !placeOk (IntKind.u64.wrap va) (↑(shiftS sz) : Int).toNat (32 : Nat) then true else !leafOk ap bi) = true) ∧ ((bif bif decide ((↑(shiftS sz) : Int) = (0 : Int)) then true else !placeOk (IntKind.u64.wrap va) (↑(shiftS sz) : Int).toNat (32 : Nat) then true else !leafOk ap bi) = false → (!bif bif decide ((↑(shiftS sz) : Int) = (0 : Int)) then true else !placeOk (IntKind.u64.wrap va) (↑(shiftS sz) : Int).toNat (32 : Nat) then true else !leafOk ap bi) = true) ∧ ((!bif bif bif decide ((↑(shiftS sz) : Int) = (0 : Int)) then true else !placeOk (IntKind.u64.wrap va) (↑(shiftS sz) : Int).toNat (32 : Nat) then true else !leafOk ap bi then true else decide (dm < (0 : Int))) = true → (!bif bif bif decide ((↑(shiftS sz) : Int) = (0 : Int)) then true else !placeOk (IntKind.u64.wrap va) (↑(shiftS sz) : Int).toNat (32 : Nat) then true else !leafOk ap bi then true else decide (dm < (0 : Int))) = true) ∧ ((!bif bif bif decide ((↑(shiftS sz) : Int) = (0 : Int)) then true else !placeOk (IntKind.u64.wrap va) (↑(shiftS sz) : Int).toNat (32 : Nat) then true else !leafOk ap bi then true else decide (dm < (0 : Int))) = true → (!bif bif bif decide ((↑(shiftS sz) : Int) = (0 : Int)) then true else !placeOk (IntKind.u64.wrap va) (↑(shiftS sz) : Int).toNat (32 : Nat) then true else !leafOk ap bi then true else decide (dm < (0 : Int))) = true) ∧ ((bif bif bif decide ((↑(shiftS sz) : Int) = (0 : Int)) then true else !placeOk (IntKind.u64.wrap va) (↑(shiftS sz) : Int).toNat (32 : Nat) then true else !leafOk ap bi then true else decide (dm < (0 : Int))) = false → (!bif bif bif decide ((↑(shiftS sz) : Int) = (0 : Int)) then true else !placeOk (IntKind.u64.wrap va) (↑(shiftS sz) : Int).toNat (32 : Nat) then true else !leafOk ap bi then true else decide (dm < (0 : Int))) = true) ∧ ((bif bif bif bif decide ((↑(shiftS sz) : Int) = (0 : Int)) then true else !placeOk (IntKind.u64.wrap va) (↑(shiftS sz) : Int).toNat (32 : Nat) then true else !leafOk ap bi then true else decide (dm < (0 : Int)) then true else decide ((15 : Int) < dm)) = true → false = rightS (Tr.mk sz va pa dm ap bi ng xn)) ∧ ((bif bif bif bif decide ((↑(shiftS sz) : Int) = (0 : Int)) then true else !placeOk (IntKind.u64.wrap va) (↑(shiftS sz) : Int).toNat (32 : Nat) then true else !leafOk ap bi then true else decide (dm < (0 : Int)) then true else decide ((15 : Int) < dm)) = false → (decide (sz = (4 : Int)) = true → ((0 : Int) ≤ pa ∧ pa < (18446744073709551616 : Int) ∧ (0 : Int) ≤ (↑(shiftS sz) : Int) ∧ (↑(shiftS sz) : Int) < (64 : Int) ∧ (0 : Int) ≤ (40 : Int) ∧ (40 : Int) < (64 : Int)) ∧ (placeOk pa (↑(shiftS sz) : Int).toNat (40 : Nat) = true → placeOk pa (↑(shiftS sz) : Int).toNat (40 : Nat) = true) ∧ (placeOk pa (↑(shiftS sz) : Int).toNat (40 : Nat) = true → placeOk pa (↑(shiftS sz) : Int).toNat (40 : Nat) = true) ∧ (placeOk pa (↑(shiftS sz) : Int).toNat (40 : Nat) = true → placeOk pa (↑(shiftS sz) : Int).toNat (40 : Nat) = true) ∧ (bif placeOk pa (↑(shiftS sz) : Int).toNat (40 : Nat) then decide (dm = (0 : Int)) else false) = rightS (Tr.mk sz va pa dm ap bi ng xn)) ∧ (decide (sz = (4 : Int)) = false → ((0 : Int) ≤ pa ∧ pa < (18446744073709551616 : Int) ∧ (0 : Int) ≤ (↑(shiftS sz) : Int) ∧ (↑(shiftS sz) : Int) < (64 : Int) ∧ (0 : Int) ≤ (32 : Int) ∧ (32 : Int) < (64 : Int)) ∧ placeOk pa (↑(shiftS sz) : Int).toNat (32 : Nat) = rightS (Tr.mk sz va pa dm ap bi ng xn)))) from by kernel_rfl]
  obtain ⟨h0, h1, h2, h3, h4, h5⟩ := hn
  have ev : IntKind.u64.wrap va = va := wrap_u64 (by omega) (by omega)
  rw [ev]
  have hd : domOk dm = (!decide (dm < 0) && !decide (15 < dm)) := by simp only [domOk, dle]
  simp only [bif_and, bif_or, rightS, hd]
  have hv : va < 18446744073709551616 := by omega
  have hs : sz = 1 ∨ sz = 2 ∨ sz = 3 ∨ sz = 4 ∨ (sz < 1 ∨ 4 < sz) := by omega
  rcases hs with rfl | rfl | rfl | rfl | h
  iterate 4 (cases decide (dm < 0) <;> cases decide (15 < dm) <;> cases leafOk ap bi <;> simp [shiftS, h0, h2, h3, h4, h5, hv, Bool.and_comm, Bool.and_left_comm] <;> (try (intros; simp_all)))
  have e2 : shiftS sz = 0 := by unfold shiftS; rw [if_neg (by omega), if_neg (by omega), if_neg (by omega), if_neg (by omega)]
  have e : (decide (1 ≤ sz) && decide (sz ≤ 4)) = false := by simp; omega
  rw [e, e2]
  simp
theorem rrightC_ch (sz va pa dm ap bi : Int) (ng xn : Bool) : ∃ r ∈ ([⟨none, some (0 ≤ va ∧ va < 4294967296 ∧ 0 ≤ pa ∧ pa < 18446744073709551616 ∧ 0 ≤ bi ∧ bi < 4294967296), .det (.val (.one (.bool (.tm (rightS (Tr.mk sz va pa dm ap bi ng xn)))))) ([])⟩] : List Res), holdsP r.g ∧ (holdsP r.need → r.r.shaped [] ∧ ∃ anns, fnVC Tryd.prog GTab (callOf Tryd.prog GTab [rshiftC, rplaceC, rleafC]) anns Tryd.f9 ((Tryd.f9.body).getD .skip) [.val (.agg [.int .i64 (.tm sz), .int .u32 (.tm va), .int .u64 (.tm pa), .int .i64 (.tm dm), .int .i64 (.tm ap), .int .u32 (.tm bi), .bool (.tm ng), .bool (.tm xn)])] [] r) := by
  exact ⟨_, List.mem_cons_self, trivial, fun hn => ⟨trivial, rrightC_p0 sz va pa dm ap bi ng xn hn⟩⟩
theorem rrightC_ok : rrightC.ok Tryd.prog GTab := by
  refine con_ok (cs := [rshiftC, rplaceC, rleafC]) (body := (Tryd.f9.body).getD .skip) ?_ Tryd.func9 rfl ?_
  · intro c h
    simp only [List.mem_cons, List.not_mem_nil, or_false] at h
    rcases h with rfl | rfl | rfl
    · exact rshiftC_ok
    · exact rplaceC_ok
    · exact rleafC_ok
  · intro args h l hl
    unfold rrightC at hl
    dsimp only at hl
    split at hl
    · cases hl
      exact rrightC_ch _ _ _ _ _ _ _ _
    · cases hl
noncomputable def sideC : Con := ⟨23, fun args h => match args, h with
  | [.val (.one (.bool (.tm priv)))], [] => some [⟨none, none, .det (.val (.one (.int .i64 (.tm (if priv = true then 1 else 0))))) ([])⟩]
  | _, _ => none, true⟩
theorem sideC_p0 (priv : Bool) : ∃ anns, fnVC Tryd.prog GTab (callOf Tryd.prog GTab []) anns Tryd.f23 ((Tryd.f23.body).getD .skip) [.val (.one (.bool (.tm priv)))] [] ⟨none, none, .det (.val (.one (.int .i64 (.tm (if priv = true then 1 else 0))))) ([])⟩ := by
  refine ⟨⟨[], [], [], [], [], [], []⟩, ?_⟩
  rw [show fnVC Tryd.prog GTab (callOf Tryd.prog GTab []) ⟨[], [], [], [], [], [], []⟩ Tryd.f23 ((Tryd.f23.body).getD .skip) [.val (.one (.bool (.tm priv)))] [] ⟨none, none, .det (.val (.one (.int .i64 (.tm (if priv = true then 1 else 0))))) ([])⟩ = ((priv = true → (1 : Int) = if priv = true then (1 : Int) else (0 : Int)) ∧ (priv = false → (0 : Int) = if priv = true then (1 : Int) else (0 : Int))) from by kernel_rfl]
  cases priv <;> simp
theorem sideC_ch (priv : Bool) : ∃ r ∈ ([⟨none, none, .det (.val (.one (.int .i64 (.tm (if priv = true then 1 else 0))))) ([])⟩] : List Res), holdsP r.g ∧ (holdsP r.need → r.r.shaped [] ∧ ∃ anns, fnVC Tryd.prog GTab (callOf Tryd.prog GTab []) anns Tryd.f23 ((Tryd.f23.body).getD .skip) [.val (.one (.bool (.tm priv)))] [] r) := by
  exact ⟨_, List.mem_cons_self, trivial, fun _ => ⟨trivial, sideC_p0 priv⟩⟩
theorem sideC_ok : sideC.ok Tryd.prog GTab := by
  refine con_ok (cs := []) (body := (Tryd.f23.body).getD .skip) ?_ Tryd.func23 rfl ?_
  · intro c h; cases h
  · intro args h l hl
    unfold sideC at hl
    dsimp only at hl
    split at hl
    · cases hl
      exact sideC_ch _
    · cases hl
noncomputable def allowsC : Con := ⟨16, fun args h => match args, h with
  | [.val (.agg [.int .i64 (.tm ap), .int .u32 (.tm bi), .bool (.tm ng), .bool (.tm xn)]), .val (.one (.bool (.tm afe))), .val (.one (.bool (.tm priv))), .val (.one (.int .i64 (.tm kind)))], [] => some [⟨none, none, .det (.val (.one (.bool (.tm (allowB ap xn afe priv kind))))) ([])⟩]
  | _, _ => none, true⟩
theorem allowsC_p0 (ap bi : Int) (ng xn afe priv : Bool) (kind : Int) : ∃ anns, fnVC Tryd.prog GTab (callOf Tryd.prog GTab [sideC]) anns Tryd.f16 ((Tryd.f16.body).getD .skip) [.val (.agg [.int .i64 (.tm ap), .int .u32 (.tm bi), .bool (.tm ng), .bool (.tm xn)]), .val (.one (.bool (.tm afe))), .val (.one (.bool (.tm priv))), .val (.one (.int .i64 (.tm kind)))] [] ⟨none, none, .det (.val (.one (.bool (.tm (allowB ap xn afe priv kind))))) ([])⟩ := by
  refine ⟨⟨[], [], [(25, ⟨Int, fun σ x => setT [(9, .val (.one (.int .i64 (.tm (x))))), (22, .val (.one .junk)), (23, .val (.one .junk)), (24, .val (.one .junk))] σ, fun σ x => x = canN ap false priv, fun x => 0⟩), (34, ⟨Int, fun σ x => setT [(9, .val (.one (.int .i64 (.tm (x))))), (22, .val (.one .junk)), (23, .val (.one .junk)), (24, .val (.one .junk)), (25, .val (.one .junk)), (26, .val (.one .junk)), (27, .val (.one .junk)), (28, .val (.one .junk)), (29, .val (.one .junk)), (30, .val (.one .junk)), (31, .val (.one .junk)), (32, .val (.one .junk)), (33, .val (.one .junk))] σ, fun σ x => x = canN ap afe priv, fun x => 0⟩)], [], [], [], []⟩, ?_⟩
  rw [show fnVC Tryd.prog GTab (callOf Tryd.prog GTab [sideC]) ⟨[], [], [(25, ⟨Int, fun σ x => setT [(9, .val (.one (.int .i64 (.tm (x))))), (22, .val (.one .junk)), (23, .val (.one .junk)), (24, .val (.one .junk))] σ, fun σ x => x = canN ap false priv, fun x => 0⟩), (34, ⟨Int, fun σ x => setT [(9, .val (.one (.int .i64 (.tm (x))))), (22, .val (.one .junk)), (23, .val (.one .junk)), (24, .val (.one .junk)), (25, .val (.one .junk)), (26, .val (.one .junk)), (27, .val (.one .junk)), (28, .val (.one .junk)), (29, .val (.one .junk)), (30, .val (.one .junk)), (31, .val (.one .junk)), (32, .val (.one .junk)), (33, .val (.one .junk))] σ, fun σ x => x = canN ap afe priv, fun x => 0⟩)], [], [], [], []⟩ Tryd.f16 ((Tryd.f16.body).getD .skip) [.val (.agg [.int .i64 (.tm ap), .int .u32 (.tm bi), .bool (.tm ng), .bool (.tm xn)]), .val (.one (.bool (.tm afe))), .val (.one (.bool (.tm priv))), .val (.one (.int .i64 (.tm kind)))] [] ⟨none, none, .det (.val (.one (.bool (.tm (allowB ap xn afe priv kind))))) ([])⟩ = (((!decide (ap < (0 : Int))) = true → (!decide (ap < (0 : Int))) = true) ∧ ((!decide (ap < (0 : Int))) = true → (!decide (ap < (0 : Int))) = true) ∧ (decide (ap < (0 : Int)) = false → (!decide (ap < (0 : Int))) = true) ∧ ((bif decide (ap < (0 : Int)) then true else decide ((7 : Int) < ap)) = true → false = allowB ap xn afe priv kind) ∧ ((bif decide (ap < (0 : Int)) then true else decide ((7 : Int) < ap)) = false → ((ap = (↑(nat_lit 0) : Int) → ((if priv = true then (1 : Int) else (0 : Int)) = (↑(nat_lit 0) : Int) → ∃ (z : Int), z = canN ap false priv ∧ ((ap = ap ∧ bi = bi ∧ ng = ng ∧ xn = xn) ∧ afe = afe ∧ priv = priv ∧ kind = kind ∧ (0 : Int) = z ∧ ap = ap ∧ decide (ap < (0 : Int)) = decide (ap < (0 : Int)) ∧ decide (ap < (0 : Int)) = decide (ap < (0 : Int)) ∧ (bif decide (ap < (0 : Int)) then true else decide ((7 : Int) < ap)) = bif decide (ap < (0 : Int)) then true else decide ((7 : Int) < ap)) ∧ ap = ap ∧ bi = bi ∧ ng = ng ∧ xn = xn) ∧ ((if priv = true then (1 : Int) else (0 : Int)) = (↑(nat_lit 1) : Int) → ∃ (z : Int), z = canN ap false priv ∧ ((ap = ap ∧ bi = bi ∧ ng = ng ∧ xn = xn) ∧ afe = afe ∧ priv = priv ∧ kind = kind ∧ (0 : Int) = z ∧ ap = ap ∧ decide (ap < (0 : Int)) = decide (ap < (0 : Int)) ∧ decide (ap < (0 : Int)) = decide (ap < (0 : Int)) ∧ (bif decide (ap < (0 : Int)) then true else decide ((7 : Int) < ap)) = bif decide (ap < (0 : Int)) then true else decide ((7 : Int) < ap)) ∧ ap = ap ∧ bi = bi ∧ ng = ng ∧ xn = xn) ∧ ((((0 : Int) ≤ if priv = true then (1 : Int) else (0 : Int)) ∧ (if priv = true then (1 : Int) else (0 : Int)) < (↑(2 : Nat) : Int) → False) → False ∧ False)) ∧ (ap = (↑(nat_lit 1) : Int) → ((if priv = true then (1 : Int) else (0 : Int)) = (↑(nat_lit 0) : Int) → ∃ (z : Int), z = canN ap false priv ∧ ((ap = ap ∧ bi = bi ∧ ng = ng ∧ xn = xn) ∧ afe = afe ∧ priv = priv ∧ kind = kind ∧ (0 : Int) = z ∧ ap = ap ∧ decide (ap < (0 : Int)) = decide (ap < (0 : Int)) ∧ decide (ap < (0 : Int)) = decide (ap < (0 : Int)) ∧ (bif decide (ap < (0 : Int)) then true else decide ((7 : Int) < ap)) = bif decide (ap < (0 : Int)) then true else decide ((7 : Int) < ap)) ∧ ap = ap ∧ bi = bi ∧ ng = ng ∧ xn = xn) ∧ ((if priv = true then (1 : Int) else (0 : Int)) = (↑(nat_lit 1) : Int) → ∃ (z : Int), z = canN ap false priv ∧ ((ap = ap ∧ bi = bi ∧ ng = ng ∧ xn = xn) ∧ afe = afe ∧ priv = priv ∧ kind = kind ∧ (3 : Int) = z ∧ ap = ap ∧ decide (ap < (0 : Int)) = decide (ap < (0 : Int)) ∧ decide (ap < (0 : Int)) = decide (ap < (0 : Int)) ∧ (bif decide (ap < (0 : Int)) then true else decide ((7 : Int) < ap)) = bif decide (ap < (0 : Int)) then true else decide ((7 : Int) < ap)) ∧ ap = ap ∧ bi = bi ∧ ng = ng ∧ xn = xn) ∧ ((((0 : Int) ≤ if priv = true then (1 : Int) else (0 : Int)) ∧ (if priv = true then (1 : Int) else (0 : Int)) < (↑(2 : Nat) : Int) → False) → False ∧ False)) ∧ (ap = (↑(nat_lit 2) : Int) → ((if priv = true then (1 : Int) else (0 : Int)) = (↑(nat_lit 0) : Int) → ∃ (z : Int), z = canN ap false priv ∧ ((ap = ap ∧ bi = bi ∧ ng = ng ∧ xn = xn) ∧ afe = afe ∧ priv = priv ∧ kind = kind ∧ (1 : Int) = z ∧ ap = ap ∧ decide (ap < (0 : Int)) = decide (ap < (0 : Int)) ∧ decide (ap < (0 : Int)) = decide (ap < (0 : Int)) ∧ (bif decide (ap < (0 : Int)) then true else decide ((7 : Int) < ap)) = bif decide (ap < (0 : Int)) then true else decide ((7 : Int) < ap)) ∧ ap = ap ∧ bi = bi ∧ ng = ng ∧ xn = xn) ∧ ((if priv = true then (1 : Int) else (0 : Int)) = (↑(nat_lit 1) : Int) → ∃ (z : Int), z = canN ap false priv ∧ ((ap = ap ∧ bi = bi ∧ ng = ng ∧ xn = xn) ∧ afe = afe ∧ priv = priv ∧ kind = kind ∧ (3 : Int) = z ∧ ap = ap ∧ decide (ap < (0 : Int)) = decide (ap < (0 : Int)) ∧ decide (ap < (0 : Int)) = decide (ap < (0 : Int)) ∧ (bif decide (ap < (0 : Int)) then true else decide ((7 : Int) < ap)) = bif decide (ap < (0 : Int)) then true else decide ((7 : Int) < ap)) ∧ ap = ap ∧ bi = bi ∧ ng = ng ∧ xn = xn) ∧ ((((0 : Int) ≤ if priv = true then (1 : Int) else (0 : Int)) ∧ (if priv = true then (1 : Int) else (0 : Int)) < (↑(2 : Nat) : Int) → False) → False ∧ False)) ∧ (ap = (↑(nat_lit 3) : Int) → ((if priv = true then (1 : Int) else (0 : Int)) = (↑(nat_lit 0) : Int) → ∃ (z : Int), z = canN ap false priv ∧ ((ap = ap ∧ bi = bi ∧ ng = ng ∧ xn = xn) ∧ afe = afe ∧ priv = priv ∧ kind = kind ∧ (3 : Int) = z ∧ ap = ap ∧ decide (ap < (0 : Int)) = decide (ap < (0 : Int)) ∧ decide (ap < (0 : Int)) = decide (ap < (0 : Int)) ∧ (bif decide (ap < (0 : Int)) then true else decide ((7 : Int) < ap)) = bif decide (ap < (0 : Int)) then true else decide ((7 : Int) < ap)) ∧ ap = ap ∧ bi = bi ∧ ng = ng ∧ xn = xn) ∧ ((if priv = true then (1 : Int) else (0 : Int)) = (↑(nat_lit 1) : Int) → ∃ (z : Int), z = canN ap false priv ∧ ((ap = ap ∧ bi = bi ∧ ng = ng ∧ xn = xn) ∧ afe = afe ∧ priv = priv ∧ kind = kind ∧ (3 : Int) = z ∧ ap = ap ∧ decide (ap < (0 : Int)) = decide (ap < (0 : Int)) ∧ decide (ap < (0 : Int)) = decide (ap < (0 : Int)) ∧ (bif decide (ap < (0 : Int)) then true else decide ((7 : Int) < ap)) = bif decide (ap < (0 : Int)) then true else decide ((7 : Int) < ap)) ∧ ap = ap ∧ bi = bi ∧ ng = ng ∧ xn = xn) ∧ ((((0 : Int) ≤ if priv = true then (1 : Int) else (0 : Int)) ∧ (if priv = true then (1 : Int) else (0 : Int)) < (↑(2 : Nat) : Int) → False) → False ∧ False)) ∧ (ap = (↑(nat_lit 4) : Int) → ((if priv = true then (1 : Int) else (0 : Int)) = (↑(nat_lit 0) : Int) → ∃ (z : Int), z = canN ap false priv ∧ ((ap = ap ∧ bi = bi ∧ ng = ng ∧ xn = xn) ∧ afe = afe ∧ priv = priv ∧ kind = kind ∧ (0 : Int) = z ∧ ap = ap ∧ decide (ap < (0 : Int)) = decide (ap < (0 : Int)) ∧ decide (ap < (0 : Int)) = decide (ap < (0 : Int)) ∧ (bif decide (ap < (0 : Int)) then true else decide ((7 : Int) < ap)) = bif decide (ap < (0 : Int)) then true else decide ((7 : Int) < ap)) ∧ ap = ap ∧ bi = bi ∧ ng = ng ∧ xn = xn) ∧ ((if priv = true then (1 : Int) else (0 : Int)) = (↑(nat_lit 1) : Int) → ∃ (z : Int), z = canN ap false priv ∧ ((ap = ap ∧ bi = bi ∧ ng = ng ∧ xn = xn) ∧ afe = afe ∧ priv = priv ∧ kind = kind ∧ (0 : Int) = z ∧ ap = ap ∧ decide (ap < (0 : Int)) = decide (ap < (0 : Int)) ∧ decide (ap < (0 : Int)) = decide (ap < (0 : Int)) ∧ (bif decide (ap < (0 : Int)) then true else decide ((7 : Int) < ap)) = bif decide (ap < (0 : Int)) then true else decide ((7 : Int) < ap)) ∧ ap = ap ∧ bi = bi ∧ ng = ng ∧ xn = xn) ∧ ((((0 : Int) ≤ if priv = true then (1 : Int) else (0 : Int)) ∧ (if priv = true then (1 : Int) else (0 : Int)) < (↑(2 : Nat) : Int) → False) → False ∧ False)) ∧ (ap = (↑(nat_lit 5) : Int) → ((if priv = true then (1 : Int) else (0 : Int)) = (↑(nat_lit 0) : Int) → ∃ (z : Int), z = canN ap false priv ∧ ((ap = ap ∧ bi = bi ∧ ng = ng ∧ xn = xn) ∧ afe = afe ∧ priv = priv ∧ kind = kind ∧ (0 : Int) = z ∧ ap = ap ∧ decide (ap < (0 : Int)) = decide (ap < (0 : Int)) ∧ decide (ap < (0 : Int)) = decide (ap < (0 : Int)) ∧ (bif decide (ap < (0 : Int)) then true else decide ((7 : Int) < ap)) = bif decide (ap < (0 : Int)) then true else decide ((7 : Int) < ap)) ∧ ap = ap ∧ bi = bi ∧ ng = ng ∧ xn = xn) ∧ ((if priv = true then (1 : Int) else (0 : Int)) = (↑(nat_lit 1) : Int) → ∃ (z : Int), z = canN ap false priv ∧ ((ap = ap ∧ bi = bi ∧ ng = ng ∧ xn = xn) ∧ afe = afe ∧ priv = priv ∧ kind = kind ∧ (1 : Int) = z ∧ ap = ap ∧ decide (ap < (0 : Int)) = decide (ap < (0 : Int)) ∧ decide (ap < (0 : Int)) = decide (ap < (0 : Int)) ∧ (bif decide (ap < (0 : Int)) then true else decide ((7 : Int) < ap)) = bif decide (ap < (0 : Int)) then true else decide ((7 : Int) < ap)) ∧ ap = ap ∧ bi = bi ∧ ng = ng ∧ xn = xn) ∧ ((((0 : Int) ≤ if priv = true then (1 : Int) else (0 : Int)) ∧ (if priv = true then (1 : Int) else (0 : Int)) < (↑(2 : Nat) : Int) → False) → False ∧ False)) ∧ (ap = (↑(nat_lit 6) : Int) → ((if priv = true then (1 : Int) else (0 : Int)) = (↑(nat_lit 0) : Int) → ∃ (z : Int), z = canN ap false priv ∧ ((ap = ap ∧ bi = bi ∧ ng = ng ∧ xn = xn) ∧ afe = afe ∧ priv = priv ∧ kind = kind ∧ (1 : Int) = z ∧ ap = ap ∧ decide (ap < (0 : Int)) = decide (ap < (0 : Int)) ∧ decide (ap < (0 : Int)) = decide (ap < (0 : Int)) ∧ (bif decide (ap < (0 : Int)) then true else decide ((7 : Int) < ap)) = bif decide (ap < (0 : Int)) then true else decide ((7 : Int) < ap)) ∧ ap = ap ∧ bi = bi ∧ ng = ng ∧ xn = xn) ∧ ((if priv = true then (1 : Int) else (0 : Int)) = (↑(nat_lit 1) : Int) → ∃ (z : Int), z = canN ap false priv ∧ ((ap = ap ∧ bi = bi ∧ ng = ng ∧ xn = xn) ∧ afe = afe ∧ priv = priv ∧ kind = kind ∧ (1 : Int) = z ∧ ap = ap ∧ decide (ap < (0 : Int)) = decide (ap < (0 : Int)) ∧ decide (ap < (0 : Int)) = decide (ap < (0 : Int)) ∧ (bif decide (ap < (0 : Int)) then true else decide ((7 : Int) < ap)) = bif decide (ap < (0 : Int)) then true else decide ((7 : Int) < ap)) ∧ ap = ap ∧ bi = bi ∧ ng = ng ∧ xn = xn) ∧ ((((0 : Int) ≤ if priv = true then (1 : Int) else (0 : Int)) ∧ (if priv = true then (1 : Int) else (0 : Int)) < (↑(2 : Nat) : Int) → False) → False ∧ False)) ∧ (ap = (↑(nat_lit 7) : Int) → ((if priv = true then (1 : Int) else (0 : Int)) = (↑(nat_lit 0) : Int) → ∃ (z : Int), z = canN ap false priv ∧ ((ap = ap ∧ bi = bi ∧ ng = ng ∧ xn = xn) ∧ afe = afe ∧ priv = priv ∧ kind = kind ∧ (1 : Int) = z ∧ ap = ap ∧ decide (ap < (0 : Int)) = decide (ap < (0 : Int)) ∧ decide (ap < (0 : Int)) = decide (ap < (0 : Int)) ∧ (bif decide (ap < (0 : Int)) then true else decide ((7 : Int) < ap)) = bif decide (ap < (0 : Int)) then true else decide ((7 : Int) < ap)) ∧ ap = ap ∧ bi = bi ∧ ng = ng ∧ xn = xn) ∧ ((if priv = true then (1 : Int) else (0 : Int)) = (↑(nat_lit 1) : Int) → ∃ (z : Int), z = canN ap false priv ∧ ((ap = ap ∧ bi = bi ∧ ng = ng ∧ xn = xn) ∧ afe = afe ∧ priv = priv ∧ kind = kind ∧ (1 : Int) = z ∧ ap = ap ∧ decide (ap < (0 : Int)) = decide (ap < (0 : Int)) ∧ decide (ap < (0 : Int)) = decide (ap < (0 : Int)) ∧ (bif decide (ap < (0 : Int)) then true else decide ((7 : Int) < ap)) = bif decide (ap < (0 : Int)) then true else decide ((7 : Int) < ap)) ∧ ap = ap ∧ bi = bi ∧ ng = ng ∧ xn = xn) ∧ ((((0 : Int) ≤ if priv = true then (1 : Int) else (0 : Int)) ∧ (if priv = true then (1 : Int) else (0 : Int)) < (↑(2 : Nat) : Int) → False) → False ∧ False)) ∧ (((0 : Int) ≤ ap ∧ ap < (↑(8 : Nat) : Int) → False) → False ∧ False)) ∧ ∀ (z : Int), z = canN ap false priv → ((afe = true → (IntKind.i64.wrap (ap.tdiv (2 : Int)) = (↑(nat_lit 0) : Int) → ((if priv = true then (1 : Int) else (0 : Int)) = (↑(nat_lit 0) : Int) → ∃ (z : Int), z = canN ap afe priv ∧ ((ap = ap ∧ bi = bi ∧ ng = ng ∧ xn = xn) ∧ afe = afe ∧ priv = priv ∧ kind = kind ∧ (0 : Int) = z ∧ ap = ap ∧ decide (ap < (0 : Int)) = decide (ap < (0 : Int)) ∧ decide (ap < (0 : Int)) = decide (ap < (0 : Int)) ∧ (bif decide (ap < (0 : Int)) then true else decide ((7 : Int) < ap)) = bif decide (ap < (0 : Int)) then true else decide ((7 : Int) < ap)) ∧ ap = ap ∧ bi = bi ∧ ng = ng ∧ xn = xn) ∧ ((if priv = true then (1 : Int) else (0 : Int)) = (↑(nat_lit 1) : Int) → ∃ (z : Int), z = canN ap afe priv ∧ ((ap = ap ∧ bi = bi ∧ ng = ng ∧ xn = xn) ∧ afe = afe ∧ priv = priv ∧ kind = kind ∧ (3 : Int) = z ∧ ap = ap ∧ decide (ap < (0 : Int)) = decide (ap < (0 : Int)) ∧ decide (ap < (0 : Int)) = decide (ap < (0 : Int)) ∧ (bif decide (ap < (0 : Int)) then true else decide ((7 : Int) < ap)) = bif decide (ap < (0 : Int)) then true else decide ((7 : Int) < ap)) ∧ ap = ap ∧ bi = bi ∧ ng = ng ∧ xn = xn) ∧ ((((0 : Int) ≤ if priv = true then (1 : Int) else (0 : Int)) ∧ (if priv = true then (1 : Int) else (0 : Int)) < (↑(2 : Nat) : Int) → False) → False ∧ False)) ∧ (IntKind.i64.wrap (ap.tdiv (2 : Int)) = (↑(nat_lit 1) : Int) → ((if priv = true then (1 : Int) else (0 : Int)) = (↑(nat_lit 0) : Int) → ∃ (z : Int), z = canN ap afe priv ∧ ((ap = ap ∧ bi = bi ∧ ng = ng ∧ xn = xn) ∧ afe = afe ∧ priv = priv ∧ kind = kind ∧ (3 : Int) = z ∧ ap = ap ∧ decide (ap < (0 : Int)) = decide (ap < (0 : Int)) ∧ decide (ap < (0 : Int)) = decide (ap < (0 : Int)) ∧ (bif decide (ap < (0 : Int)) then true else decide ((7 : Int) < ap)) = bif decide (ap < (0 : Int)) then true else decide ((7 : Int) < ap)) ∧ ap = ap ∧ bi = bi ∧ ng = ng ∧ xn = xn) ∧ ((if priv = true then (1 : Int) else (0 : Int)) = (↑(nat_lit 1) : Int) → ∃ (z : Int), z = canN ap afe priv ∧ ((ap = ap ∧ bi = bi ∧ ng = ng ∧ xn = xn) ∧ afe = afe ∧ priv = priv ∧ kind = kind ∧ (3 : Int) = z ∧ ap = ap ∧ decide (ap < (0 : Int)) = decide (ap < (0 : Int)) ∧ decide (ap < (0 : Int)) = decide (ap < (0 : Int)) ∧ (bif decide (ap < (0 : Int)) then true else decide ((7 : Int) < ap)) = bif decide (ap < (0 : Int)) then true else decide ((7 : Int) < ap)) ∧ ap = ap ∧ bi = bi ∧ ng = ng ∧ xn = xn) ∧ ((((0 : Int) ≤ if priv = true then (1 : Int) else (0 : Int)) ∧ (if priv = true then (1 : Int) else (0 : Int)) < (↑(2 : Nat) : Int) → False) → False ∧ False)) ∧ (IntKind.i64.wrap (ap.tdiv (2 : Int)) = (↑(nat_lit 2) : Int) → ((if priv = true then (1 : Int) else (0 : Int)) = (↑(nat_lit 0) : Int) → ∃ (z : Int), z = canN ap afe priv ∧ ((ap = ap ∧ bi = bi ∧ ng = ng ∧ xn = xn) ∧ afe = afe ∧ priv = priv ∧ kind = kind ∧ (0 : Int) = z ∧ ap = ap ∧ decide (ap < (0 : Int)) = decide (ap < (0 : Int)) ∧ decide (ap < (0 : Int)) = decide (ap < (0 : Int)) ∧ (bif decide (ap < (0 : Int)) then true else decide ((7 : Int) < ap)) = bif decide (ap < (0 : Int)) then true else decide ((7 : Int) < ap)) ∧ ap = ap ∧ bi = bi ∧ ng = ng ∧ xn = xn) ∧ ((if priv = true then (1 : Int) else (0 : Int)) = (↑(nat_lit 1) : Int) → ∃ (z : Int), z = canN ap afe priv ∧ ((ap = ap ∧ bi = bi ∧ ng = ng ∧ xn = xn) ∧ afe = afe ∧ priv = priv ∧ kind = kind ∧ (1 : Int) = z ∧ ap = ap ∧ decide (ap < (0 : Int)) = decide (ap < (0 : Int)) ∧ decide (ap < (0 : Int)) = decide (ap < (0 : Int)) ∧ (bif decide (ap < (0 : Int)) then true else decide ((7 : Int) < ap)) = bif decide (ap < (0 : Int)) then true else decide ((7 : Int) < ap)) ∧ ap = ap ∧ bi = bi ∧ ng = ng ∧ xn = xn) ∧ ((((0 : Int) ≤ if priv = true then (1 : Int) else (0 : Int)) ∧ (if priv = true then (1 : Int) else (0 : Int)) < (↑(2 : Nat) : Int) → False) → False ∧ False)) ∧ (IntKind.i64.wrap (ap.tdiv (2 : Int)) = (↑(nat_lit 3) : Int) → ((if priv = true then (1 : Int) else (0 : Int)) = (↑(nat_lit 0) : Int) → ∃ (z : Int), z = canN ap afe priv ∧ ((ap = ap ∧ bi = bi ∧ ng = ng ∧ xn = xn) ∧ afe = afe ∧ priv = priv ∧ kind = kind ∧ (1 : Int) = z ∧ ap = ap ∧ decide (ap < (0 : Int)) = decide (ap < (0 : Int)) ∧ decide (ap < (0 : Int)) = decide (ap < (0 : Int)) ∧ (bif decide (ap < (0 : Int)) then true else decide ((7 : Int) < ap)) = bif decide (ap < (0 : Int)) then true else decide ((7 : Int) < ap)) ∧ ap = ap ∧ bi = bi ∧ ng = ng ∧ xn = xn) ∧ ((if priv = true then (1 : Int) else (0 : Int)) = (↑(nat_lit 1) : Int) → ∃ (z : Int), z = canN ap afe priv ∧ ((ap = ap ∧ bi = bi ∧ ng = ng ∧ xn = xn) ∧ afe = afe ∧ priv = priv ∧ kind = kind ∧ (1 : Int) = z ∧ ap = ap ∧ decide (ap < (0 : Int)) = decide (ap < (0 : Int)) ∧ decide (ap < (0 : Int)) = decide (ap < (0 : Int)) ∧ (bif decide (ap < (0 : Int)) then true else decide ((7 : Int) < ap)) = bif decide (ap < (0 : Int)) then true else decide ((7 : Int) < ap)) ∧ ap = ap ∧ bi = bi ∧ ng = ng ∧ xn = xn) ∧ ((((0 : Int) ≤ if priv = true then (1 : Int) else (0 : Int)) ∧ (if priv = true then (1 : Int) else (0 : Int)) < (↑(2 : Nat) : Int) → False) → False ∧ False)) ∧ (((0 : Int) ≤ IntKind.i64.wrap (ap.tdiv (2 : Int)) ∧ IntKind.i64.wrap (ap.tdiv (2 : Int)) < (↑(4 : Nat) : Int) → False) → False ∧ False)) ∧ (afe = false → ∃ (z_1 : Int), z_1 = canN ap afe priv ∧ ((ap = ap ∧ bi = bi ∧ ng = ng ∧ xn = xn) ∧ afe = afe ∧ priv = priv ∧ kind = kind ∧ z = z_1 ∧ ap = ap ∧ decide (ap < (0 : Int)) = decide (ap < (0 : Int)) ∧ decide (ap < (0 : Int)) = decide (ap < (0 : Int)) ∧ (bif decide (ap < (0 : Int)) then true else decide ((7 : Int) < ap)) = bif decide (ap < (0 : Int)) then true else decide ((7 : Int) < ap)) ∧ ap = ap ∧ bi = bi ∧ ng = ng ∧ xn = xn)) ∧ ∀ (z : Int), z = canN ap afe priv → (decide (kind = (1 : Int)) = true → ((!decide (bits BinOp.and IntKind.i64 z (1 : Int) = (0 : Int))) = true → (!decide (bits BinOp.and IntKind.i64 z (1 : Int) = (0 : Int))) = true) ∧ ((!decide (bits BinOp.and IntKind.i64 z (1 : Int) = (0 : Int))) = true → (!decide (bits BinOp.and IntKind.i64 z (1 : Int) = (0 : Int))) = true) ∧ ((!decide (bits BinOp.and IntKind.i64 z (1 : Int) = (0 : Int))) = true → (!decide (bits BinOp.and IntKind.i64 z (1 : Int) = (0 : Int))) = true) ∧ (bif !decide (bits BinOp.and IntKind.i64 z (1 : Int) = (0 : Int)) then !xn else false) = allowB ap xn afe priv kind) ∧ (decide (kind = (1 : Int)) = false → (decide (kind = (2 : Int)) = true → (!decide (bits BinOp.and IntKind.i64 z (1 : Int) = (0 : Int))) = allowB ap xn afe priv kind) ∧ (decide (kind = (2 : Int)) = false → (decide (kind = (3 : Int)) = true → (!decide (bits BinOp.and IntKind.i64 z (2 : Int) = (0 : Int))) = allowB ap xn afe priv kind) ∧ (decide (kind = (3 : Int)) = false → false = allowB ap xn afe priv kind))))) from by kernel_rfl]
  by_cases hout : ap < 0 ∨ 7 < ap
  · have e1 : (bif decide (ap < 0) then true else decide (7 < ap)) = true := by rw [bif_or]; simpa using hout
    have e2 : allowB ap xn afe priv kind = false := by
      unfold allowB
      rcases hout with h | h
      · rw [decide_eq_false (show ¬ 0 ≤ ap by omega)]; rfl
      · rw [decide_eq_false (show ¬ ap ≤ 7 by omega), Bool.and_false]; rfl
    rw [e1, e2]
    exact ⟨id, id, fun h => by rw [h]; rfl, fun _ => rfl, fun h => by cases h⟩
  have hap : ap = 0 ∨ ap = 1 ∨ ap = 2 ∨ ap = 3 ∨ ap = 4 ∨ ap = 5 ∨ ap = 6 ∨ ap = 7 := by omega
  have b01 : bits .and .i64 0 1 = 0 := by decide
  have b11 : bits .and .i64 1 1 = 1 := by decide
  have b31 : bits .and .i64 3 1 = 1 := by decide
  have b02 : bits .and .i64 0 2 = 0 := by decide
  have b12 : bits .and .i64 1 2 = 0 := by decide
  have b32 : bits .and .i64 3 2 = 2 := by decide
  have w0 : IntKind.i64.wrap 0 = 0 := by decide
  have w1 : IntKind.i64.wrap 1 = 1 := by decide
  have w2 : IntKind.i64.wrap 2 = 2 := by decide
  have w3 : IntKind.i64.wrap 3 = 3 := by decide
  have hk : kind = 1 ∨ kind = 2 ∨ kind = 3 ∨ (¬ kind = 1 ∧ ¬ kind = 2 ∧ ¬ kind = 3) := by omega
  rcases hap with rfl | rfl | rfl | rfl | rfl | rfl | rfl | rfl <;> cases priv <;> cases afe <;> rcases hk with rfl | rfl | rfl | ⟨k1, k2, k3⟩ <;> first | (simp [canN, allowB, b01, b11, b31, b02, b12, b32, w0, w1, w2, w3]; done) | simp [canN, allowB, b01, b11, b31, b02, b12, b32, w0, w1, w2, w3, k1, k2, k3]
theorem allowsC_ch (ap bi : Int) (ng xn afe priv : Bool) (kind : Int) : ∃ r ∈ ([⟨none, none, .det (.val (.one (.bool (.tm (allowB ap xn afe priv kind))))) ([])⟩] : List Res), holdsP r.g ∧ (holdsP r.need → r.r.shaped [] ∧ ∃ anns, fnVC Tryd.prog GTab (callOf Tryd.prog GTab [sideC]) anns Tryd.f16 ((Tryd.f16.body).getD .skip) [.val (.agg [.int .i64 (.tm ap), .int .u32 (.tm bi), .bool (.tm ng), .bool (.tm xn)]), .val (.one (.bool (.tm afe))), .val (.one (.bool (.tm priv))), .val (.one (.int .i64 (.tm kind)))] [] r) := by
  exact ⟨_, List.mem_cons_self, trivial, fun _ => ⟨trivial, allowsC_p0 ap bi ng xn afe priv kind⟩⟩
theorem allowsC_ok : allowsC.ok Tryd.prog GTab := by
  refine con_ok (cs := [sideC]) (body := (Tryd.f16.body).getD .skip) ?_ Tryd.func16 rfl ?_
  · intro c h
    simp only [List.mem_cons, List.not_mem_nil, or_false] at h
    rcases h with rfl
    · exact sideC_ok
  · intro args h l hl
    unfold allowsC at hl
    dsimp only at hl
    split at hl
    · cases hl
      exact allowsC_ch _ _ _ _ _ _ _
    · cases hl
noncomputable def levelC : Con := ⟨15, fun args h => match args, h with
  | [.val (.one (.int .i64 (.tm s)))], [] => some [⟨none, none, .det (.val (.one (.int .i64 (.tm (levelS s))))) ([])⟩]
  | _, _ => none, true⟩
theorem levelC_p0 (s : Int) : ∃ anns, fnVC Tryd.prog GTab (callOf Tryd.prog GTab []) anns Tryd.f15 ((Tryd.f15.body).getD .skip) [.val (.one (.int .i64 (.tm s)))] [] ⟨none, none, .det (.val (.one (.int .i64 (.tm (levelS s))))) ([])⟩ := by
  refine ⟨⟨[], [], [], [], [], [], []⟩, ?_⟩
  rw [show fnVC Tryd.prog GTab (callOf Tryd.prog GTab []) ⟨[], [], [], [], [], [], []⟩ Tryd.f15 ((Tryd.f15.body).getD .skip) [.val (.one (.int .i64 (.tm s)))] [] ⟨none, none, .det (.val (.one (.int .i64 (.tm (levelS s))))) ([])⟩ = ((decide (s = (1 : Int)) = true → (decide (s = (1 : Int)) = true → (2 : Int) = levelS s) ∧ (decide (s = (1 : Int)) = false → (decide (s = (3 : Int)) = true → (decide (s = (3 : Int)) = true → (1 : Int) = levelS s) ∧ (decide (s = (3 : Int)) = false → (0 : Int) = levelS s)) ∧ (decide (s = (3 : Int)) = false → (decide (s = (4 : Int)) = true → (1 : Int) = levelS s) ∧ (decide (s = (4 : Int)) = false → (0 : Int) = levelS s)))) ∧ (decide (s = (1 : Int)) = false → (decide (s = (2 : Int)) = true → (2 : Int) = levelS s) ∧ (decide (s = (2 : Int)) = false → (decide (s = (3 : Int)) = true → (decide (s = (3 : Int)) = true → (1 : Int) = levelS s) ∧ (decide (s = (3 : Int)) = false → (0 : Int) = levelS s)) ∧ (decide (s = (3 : Int)) = false → (decide (s = (4 : Int)) = true → (1 : Int) = levelS s) ∧ (decide (s = (4 : Int)) = false → (0 : Int) = levelS s))))) from by kernel_rfl]
  unfold levelS
  by_cases k1 : s = 1
  · subst k1; simp
  by_cases k2 : s = 2
  · subst k2; simp
  by_cases k3 : s = 3
  · subst k3; simp
  by_cases k4 : s = 4
  · subst k4; simp
  simp [k1, k2, k3, k4]
theorem levelC_ch (s : Int) : ∃ r ∈ ([⟨none, none, .det (.val (.one (.int .i64 (.tm (levelS s))))) ([])⟩] : List Res), holdsP r.g ∧ (holdsP r.need → r.r.shaped [] ∧ ∃ anns, fnVC Tryd.prog GTab (callOf Tryd.prog GTab []) anns Tryd.f15 ((Tryd.f15.body).getD .skip) [.val (.one (.int .i64 (.tm s)))] [] r) := by
  exact ⟨_, List.mem_cons_self, trivial, fun _ => ⟨trivial, levelC_p0 s⟩⟩
theorem levelC_ok : levelC.ok Tryd.prog GTab := by
  refine con_ok (cs := []) (body := (Tryd.f15.body).getD .skip) ?_ Tryd.func15 rfl ?_
  · intro c h; cases h
  · intro args h l hl
    unfold levelC at hl
    dsimp only at hl
    split at hl
    · cases hl
      exact levelC_ch _
    · cases hl
noncomputable def rlevelC : Con := ⟨20, fun args h => match args, h with
  | [.val (.one (.int .i64 (.tm s)))], [] => some [⟨none, none, .det (.val (.one (.int .i64 (.tm (levelS s))))) ([])⟩]
  | _, _ => none, true⟩
theorem rlevelC_p0 (s : Int) : ∃ anns, fnVC Tryd.prog GTab (callOf Tryd.prog GTab []) anns Tryd.f20 ((Tryd.f20.body).getD .skip) [.val (.one (.int .i64 (.tm s)))] [] ⟨none, none, .det (.val (.one (.int .i64 (.tm (levelS s))))) ([])⟩ := by
  refine ⟨⟨[], [], [], [], [], [], []⟩, ?_⟩
  rw [show fnVC Tryd.prog GTab (callOf Tryd.prog GTab []) ⟨[], [], [], [], [], [], []⟩ Tryd.f20 ((Tryd.f20.body).getD .skip) [.val (.one (.int .i64 (.tm s)))] [] ⟨none, none, .det (.val (.one (.int .i64 (.tm (levelS s))))) ([])⟩ = ((decide (s = (1 : Int)) = true → (decide (s = (1 : Int)) = true → (2 : Int) = levelS s) ∧ (decide (s = (1 : Int)) = false → (decide (s = (3 : Int)) = true → (decide (s = (3 : Int)) = true → (1 : Int) = levelS s) ∧ (decide (s = (3 : Int)) = false → (0 : Int) = levelS s)) ∧ (decide (s = (3 : Int)) = false → (decide (s = (4 : Int)) = true → (1 : Int) = levelS s) ∧ (decide (s = (4 : Int)) = false → (0 : Int) = levelS s)))) ∧ (decide (s = (1 : Int)) = false → (decide (s = (2 : Int)) = true → (2 : Int) = levelS s) ∧ (decide (s = (2 : Int)) = false → (decide (s = (3 : Int)) = true → (decide (s = (3 : Int)) = true → (1 : Int) = levelS s) ∧ (decide (s = (3 : Int)) = false → (0 : Int) = levelS s)) ∧ (decide (s = (3 : Int)) = false → (decide (s = (4 : Int)) = true → (1 : Int) = levelS s) ∧ (decide (s = (4 : Int)) = false → (0 : Int) = levelS s))))) from by kernel_rfl]
  unfold levelS
  by_cases k1 : s = 1
  · subst k1; simp
  by_cases k2 : s = 2
  · subst k2; simp
  by_cases k3 : s = 3
  · subst k3; simp
  by_cases k4 : s = 4
  · subst k4; simp
  simp [k1, k2, k3, k4]
theorem rlevelC_ch (s : Int) : ∃ r ∈ ([⟨none, none, .det (.val (.one (.int .i64 (.tm (levelS s))))) ([])⟩] : List Res), holdsP r.g ∧ (holdsP r.need → r.r.shaped [] ∧ ∃ anns, fnVC Tryd.prog GTab (callOf Tryd.prog GTab []) anns Tryd.f20 ((Tryd.f20.body).getD .skip) [.val (.one (.int .i64 (.tm s)))] [] r) := by
  exact ⟨_, List.mem_cons_self, trivial, fun _ => ⟨trivial, rlevelC_p0 s⟩⟩
theorem rlevelC_ok : rlevelC.ok Tryd.prog GTab := by
  refine con_ok (cs := []) (body := (Tryd.f20.body).getD .skip) ?_ Tryd.func20 rfl ?_
  · intro c h; cases h
  · intro args h l hl
    unfold rlevelC at hl
    dsimp only at hl
    split at hl
    · cases hl
      exact rlevelC_ch _
    · cases hl
noncomputable def rchkC : Con := ⟨8, fun args h => match args, h with
  | [.val (.agg [.int .i64 (.tm sz), .int .u32 (.tm va), .int .u64 (.tm pa), .int .i64 (.tm dm), .int .i64 (.tm ap), .int .u32 (.tm bi), .bool (.tm ng), .bool (.tm xn)]), .val (.agg [.bool (.tm on), .bool (.tm tre), .bool (.tm afe), .int .i64 (.tm cn), .bool (.tm pd0), .bool (.tm pd1), .int .u64 (.tm b0), .int .u64 (.tm b1), .int .u32 (.tm da), .int .u32 (.tm pr), .int .u32 (.tm nm), .int .i64 (.tm asd)]), .val (.one (.bool (.tm priv))), .val (.one (.int .i64 (.tm kind)))], [] => some [⟨none, some (0 ≤ va ∧ va < 4294967296 ∧ 0 ≤ pa ∧ pa < 18446744073709551616 ∧ 0 ≤ bi ∧ bi < 4294967296 ∧ 0 ≤ da ∧ da < 4294967296), .det (.val (.agg [.int .i64 (.tm (((checkS (Tr.mk sz va pa dm ap bi ng xn) on afe da priv kind)).kind)), .int .i64 (.tm (((checkS (Tr.mk sz va pa dm ap bi ng xn) on afe da priv kind)).level)), .int .i64 (.tm (((checkS (Tr.mk sz va pa dm ap bi ng xn) on afe da priv kind)).dom))])) ([])⟩]
  | _, _ => none, true⟩
theorem rchkC_p0 (sz va pa dm ap bi : Int) (ng xn : Bool) (on tre afe pd0 pd1 : Bool) (cn b0 b1 da pr nm asd : Int) (priv : Bool) (kind : Int) (hn : 0 ≤ va ∧ va < 4294967296 ∧ 0 ≤ pa ∧ pa < 18446744073709551616 ∧ 0 ≤ bi ∧ bi < 4294967296 ∧ 0 ≤ da ∧ da < 4294967296) : ∃ anns, fnVC Tryd.prog GTab (callOf Tryd.prog GTab [rightC, levelC, allowsC]) anns Tryd.f8 ((Tryd.f8.body).getD .skip) [.val (.agg [.int .i64 (.tm sz), .int .u32 (.tm va), .int .u64 (.tm pa), .int .i64 (.tm dm), .int .i64 (.tm ap), .int .u32 (.tm bi), .bool (.tm ng), .bool (.tm xn)]), .val (.agg [.bool (.tm on), .bool (.tm tre), .bool (.tm afe), .int .i64 (.tm cn), .bool (.tm pd0), .bool (.tm pd1), .int .u64 (.tm b0), .int .u64 (.tm b1), .int .u32 (.tm da), .int .u32 (.tm pr), .int .u32 (.tm nm), .int .i64 (.tm asd)]), .val (.one (.bool (.tm priv))), .val (.one (.int .i64 (.tm kind)))] [] ⟨none, some (0 ≤ va ∧ va < 4294967296 ∧ 0 ≤ pa ∧ pa < 18446744073709551616 ∧ 0 ≤ bi ∧ bi < 4294967296 ∧ 0 ≤ da ∧ da < 4294967296), .det (.val (.agg [.int .i64 (.tm (((checkS (Tr.mk sz va pa dm ap bi ng xn) on afe da priv kind)).kind)), .int .i64 (.tm (((checkS (Tr.mk sz va pa dm ap bi ng xn) on afe da priv kind)).level)), .int .i64 (.tm (((checkS (Tr.mk sz va pa dm ap bi ng xn) on afe da priv kind)).dom))])) ([])⟩ := by
  refine ⟨⟨[], [], [], [], [], [], []⟩, ?_⟩
  rw [show fnVC Tryd.prog GTab (callOf Tryd.prog GTab [rightC, levelC, allowsC]) ⟨[], [], [], [], [], [], []⟩ Tryd.f8 ((Tryd.f8.body).getD .skip) [.val (.agg [.int .i64 (.tm sz), .int .u32 (.tm va), .int .u64 (.tm pa), .int .i64 (.tm dm), .int .i64 (.tm ap), .int .u32 (.tm bi), .bool (.tm ng), .bool (.tm xn)]), .val (.agg [.bool (.tm on), .bool (.tm tre), .bool (.tm afe), .int .i64 (.tm cn), .bool (.tm pd0), .bool (.tm pd1), .int .u64 (.tm b0), .int .u64 (.tm b1), .int .u32 (.tm da), .int .u32 (.tm pr), .int .u32 (.tm nm), .int .i64 (.tm asd)]), .val (.one (.bool (.tm priv))), .val (.one (.int .i64 (.tm kind)))] [] ⟨none, some (0 ≤ va ∧ va < 4294967296 ∧ 0 ≤ pa ∧ pa < 18446744073709551616 ∧ 0 ≤ bi ∧ bi < 4294967296 ∧ 0 ≤ da ∧ da < 4294967296), .det (.val (.agg [.int .i64 (.tm (((checkS (Tr.mk sz va pa dm ap bi ng xn) on afe da priv kind)).kind)), .int .i64 (.tm (((checkS (Tr.mk sz va pa dm ap bi ng xn) on afe da priv kind)).level)), .int .i64 (.tm (((checkS (Tr.mk sz va pa dm ap bi ng xn) on afe da priv kind)).dom))])) ([])⟩ = ((((!!on) = true → (!!on) = true) ∧ ((!!on) = true → (0 : Int) ≤ va ∧ va < (4294967296 : Int) ∧ (0 : Int) ≤ pa ∧ pa < (18446744073709551616 : Int) ∧ (0 : Int) ≤ bi ∧ bi < (4294967296 : Int))) ∧ ((!!on) = true → (!!on) = true) ∧ ((!on) = false → (!!on) = true) ∧ ((bif !on then true else !rightS (Tr.mk sz va pa dm ap bi ng xn)) = true → (0 : Int) = (checkS (Tr.mk sz va pa dm ap bi ng xn) on afe da priv kind).kind ∧ (0 : Int) = (checkS (Tr.mk sz va pa dm ap bi ng xn) on afe da priv kind).level ∧ (0 : Int) = (checkS (Tr.mk sz va pa dm ap bi ng xn) on afe da priv kind).dom) ∧ ((bif !on then true else !rightS (Tr.mk sz va pa dm ap bi ng xn)) = false → (0 : Int) ≤ IntKind.u64.wrap (IntKind.i64.wrap ((2 : Int) * dm)) ∧ (afe = true → afe = true) ∧ (afe = true → afe = true) ∧ (afe = true → afe = true) ∧ (afe = true → afe = true) ∧ (afe = true → afe = true) ∧ ((bif afe then decide (bits BinOp.and IntKind.i64 ap (1 : Int) = (0 : Int)) else false) = true → (7 : Int) = (checkS (Tr.mk sz va pa dm ap bi ng xn) on afe da priv kind).kind ∧ levelS sz = (checkS (Tr.mk sz va pa dm ap bi ng xn) on afe da priv kind).level ∧ dm = (checkS (Tr.mk sz va pa dm ap bi ng xn) on afe da priv kind).dom) ∧ ((bif afe then decide (bits BinOp.and IntKind.i64 ap (1 : Int) = (0 : Int)) else false) = false → ((!decide (bits BinOp.and IntKind.u32 (da / (↑((2 : Nat) ^ min (IntKind.u64.wrap (IntKind.i64.wrap ((2 : Int) * dm))).toNat (32 : Nat)) : Int)) (3 : Int) = (0 : Int))) = true → (!decide (bits BinOp.and IntKind.u32 (da / (↑((2 : Nat) ^ min (IntKind.u64.wrap (IntKind.i64.wrap ((2 : Int) * dm))).toNat (32 : Nat)) : Int)) (3 : Int) = (0 : Int))) = true) ∧ (decide (bits BinOp.and IntKind.u32 (da / (↑((2 : Nat) ^ min (IntKind.u64.wrap (IntKind.i64.wrap ((2 : Int) * dm))).toNat (32 : Nat)) : Int)) (3 : Int) = (0 : Int)) = false → (!decide (bits BinOp.and IntKind.u32 (da / (↑((2 : Nat) ^ min (IntKind.u64.wrap (IntKind.i64.wrap ((2 : Int) * dm))).toNat (32 : Nat)) : Int)) (3 : Int) = (0 : Int))) = true) ∧ ((bif decide (bits BinOp.and IntKind.u32 (da / (↑((2 : Nat) ^ min (IntKind.u64.wrap (IntKind.i64.wrap ((2 : Int) * dm))).toNat (32 : Nat)) : Int)) (3 : Int) = (0 : Int)) then true else decide (bits BinOp.and IntKind.u32 (da / (↑((2 : Nat) ^ min (IntKind.u64.wrap (IntKind.i64.wrap ((2 : Int) * dm))).toNat (32 : Nat)) : Int)) (3 : Int) = (2 : Int))) = true → (8 : Int) = (checkS (Tr.mk sz va pa dm ap bi ng xn) on afe da priv kind).kind ∧ levelS sz = (checkS (Tr.mk sz va pa dm ap bi ng xn) on afe da priv kind).level ∧ dm = (checkS (Tr.mk sz va pa dm ap bi ng xn) on afe da priv kind).dom) ∧ ((bif decide (bits BinOp.and IntKind.u32 (da / (↑((2 : Nat) ^ min (IntKind.u64.wrap (IntKind.i64.wrap ((2 : Int) * dm))).toNat (32 : Nat)) : Int)) (3 : Int) = (0 : Int)) then true else decide (bits BinOp.and IntKind.u32 (da / (↑((2 : Nat) ^ min (IntKind.u64.wrap (IntKind.i64.wrap ((2 : Int) * dm))).toNat (32 : Nat)) : Int)) (3 : Int) = (2 : Int))) = false → (decide (bits BinOp.and IntKind.u32 (da / (↑((2 : Nat) ^ min (IntKind.u64.wrap (IntKind.i64.wrap ((2 : Int) * dm))).toNat (32 : Nat)) : Int)) (3 : Int) = (1 : Int)) = true → decide (bits BinOp.and IntKind.u32 (da / (↑((2 : Nat) ^ min (IntKind.u64.wrap (IntKind.i64.wrap ((2 : Int) * dm))).toNat (32 : Nat)) : Int)) (3 : Int) = (1 : Int)) = true) ∧ (decide (bits BinOp.and IntKind.u32 (da / (↑((2 : Nat) ^ min (IntKind.u64.wrap (IntKind.i64.wrap ((2 : Int) * dm))).toNat (32 : Nat)) : Int)) (3 : Int) = (1 : Int)) = true → decide (bits BinOp.and IntKind.u32 (da / (↑((2 : Nat) ^ min (IntKind.u64.wrap (IntKind.i64.wrap ((2 : Int) * dm))).toNat (32 : Nat)) : Int)) (3 : Int) = (1 : Int)) = true) ∧ ((decide (bits BinOp.and IntKind.u32 (da / (↑((2 : Nat) ^ min (IntKind.u64.wrap (IntKind.i64.wrap ((2 : Int) * dm))).toNat (32 : Nat)) : Int)) (3 : Int) = (1 : Int)) = true → decide (bits BinOp.and IntKind.u32 (da / (↑((2 : Nat) ^ min (IntKind.u64.wrap (IntKind.i64.wrap ((2 : Int) * dm))).toNat (32 : Nat)) : Int)) (3 : Int) = (1 : Int)) = true) ∧ (decide (bits BinOp.and IntKind.u32 (da / (↑((2 : Nat) ^ min (IntKind.u64.wrap (IntKind.i64.wrap ((2 : Int) * dm))).toNat (32 : Nat)) : Int)) (3 : Int) = (1 : Int)) = true → decide (bits BinOp.and IntKind.u32 (da / (↑((2 : Nat) ^ min (IntKind.u64.wrap (IntKind.i64.wrap ((2 : Int) * dm))).toNat (32 : Nat)) : Int)) (3 : Int) = (1 : Int)) = true) ∧ (decide (bits BinOp.and IntKind.u32 (da / (↑((2 : Nat) ^ min (IntKind.u64.wrap (IntKind.i64.wrap ((2 : Int) * dm))).toNat (32 : Nat)) : Int)) (3 : Int) = (1 : Int)) = true → decide (bits BinOp.and IntKind.u32 (da / (↑((2 : Nat) ^ min (IntKind.u64.wrap (IntKind.i64.wrap ((2 : Int) * dm))).toNat (32 : Nat)) : Int)) (3 : Int) = (1 : Int)) = true) ∧ (decide (bits BinOp.and IntKind.u32 (da / (↑((2 : Nat) ^ min (IntKind.u64.wrap (IntKind.i64.wrap ((2 : Int) * dm))).toNat (32 : Nat)) : Int)) (3 : Int) = (1 : Int)) = true → decide (bits BinOp.and IntKind.u32 (da / (↑((2 : Nat) ^ min (IntKind.u64.wrap (IntKind.i64.wrap ((2 : Int) * dm))).toNat (32 : Nat)) : Int)) (3 : Int) = (1 : Int)) = true)) ∧ (decide (bits BinOp.and IntKind.u32 (da / (↑((2 : Nat) ^ min (IntKind.u64.wrap (IntKind.i64.wrap ((2 : Int) * dm))).toNat (32 : Nat)) : Int)) (3 : Int) = (1 : Int)) = true → decide (bits BinOp.and IntKind.u32 (da / (↑((2 : Nat) ^ min (IntKind.u64.wrap (IntKind.i64.wrap ((2 : Int) * dm))).toNat (32 : Nat)) : Int)) (3 : Int) = (1 : Int)) = true) ∧ (decide (bits BinOp.and IntKind.u32 (da / (↑((2 : Nat) ^ min (IntKind.u64.wrap (IntKind.i64.wrap ((2 : Int) * dm))).toNat (32 : Nat)) : Int)) (3 : Int) = (1 : Int)) = true → decide (bits BinOp.and IntKind.u32 (da / (↑((2 : Nat) ^ min (IntKind.u64.wrap (IntKind.i64.wrap ((2 : Int) * dm))).toNat (32 : Nat)) : Int)) (3 : Int) = (1 : Int)) = true) ∧ ((bif decide (bits BinOp.and IntKind.u32 (da / (↑((2 : Nat) ^ min (IntKind.u64.wrap (IntKind.i64.wrap ((2 : Int) * dm))).toNat (32 : Nat)) : Int)) (3 : Int) = (1 : Int)) then !allowB ap xn afe priv kind else false) = true → (9 : Int) = (checkS (Tr.mk sz va pa dm ap bi ng xn) on afe da priv kind).kind ∧ levelS sz = (checkS (Tr.mk sz va pa dm ap bi ng xn) on afe da priv kind).level ∧ dm = (checkS (Tr.mk sz va pa dm ap bi ng xn) on afe da priv kind).dom) ∧ ((bif decide (bits BinOp.and IntKind.u32 (da / (↑((2 : Nat) ^ min (IntKind.u64.wrap (IntKind.i64.wrap ((2 : Int) * dm))).toNat (32 : Nat)) : Int)) (3 : Int) = (1 : Int)) then !allowB ap xn afe priv kind else false) = false → (0 : Int) = (checkS (Tr.mk sz va pa dm ap bi ng xn) on afe da priv kind).kind ∧ (0 : Int) = (checkS (Tr.mk sz va pa dm ap bi ng xn) on afe da priv kind).level ∧ (0 : Int) = (checkS (Tr.mk sz va pa dm ap bi ng xn) on afe da priv kind).dom))))) from by kernel_rfl]
  obtain ⟨t1, t2, t3, t4, t5, t6, d1, d2⟩ := hn
  have hcond : (bif !on then true else !rightS (Tr.mk sz va pa dm ap bi ng xn)) = !(on && rightS (Tr.mk sz va pa dm ap bi ng xn)) := by cases on <;> simp
  rw [hcond]
  cases hb : (on && rightS (Tr.mk sz va pa dm ap bi ng xn)) with
  | false =>
    have e : checkS (Tr.mk sz va pa dm ap bi ng xn) on afe da priv kind = Ft.zero := by unfold checkS; rw [if_pos hb]
    rw [e]
    exact ⟨⟨id, fun _ => ⟨t1, t2, t3, t4, t5, t6⟩⟩, id, fun h => by rw [h]; rfl, fun _ => ⟨rfl, rfl, rfl⟩, fun h => by cases h⟩
  | true =>
    have hr : rightS (Tr.mk sz va pa dm ap bi ng xn) = true := by simp only [Bool.and_eq_true] at hb; exact hb.2
    obtain ⟨g0, g1⟩ : 0 ≤ dm ∧ dm ≤ 15 := right_dom hr
    obtain ⟨g2, g3⟩ : 0 ≤ ap ∧ ap ≤ 7 := right_leaf hr
    have g00 : 0 ≤ 2 * dm := by omega
    have e2 : IntKind.u64.wrap (IntKind.i64.wrap (2 * dm)) = 2 * dm := by rw [wrap_i64 (by omega) (by omega), wrap_u64 (by omega) (by omega)]
    have hF0 : 0 ≤ da / 4 ^ dm.toNat := Int.ediv_nonneg d1 (Int.le_of_lt (Int.pow_pos (by decide)))
    have hF1 : da / 4 ^ dm.toNat ≤ da := Int.ediv_le_self _ d1
    have e3 : bits .and .u32 (da / ((2 ^ min (2 * dm).toNat 32 : Nat) : Int)) 3 = da / 4 ^ dm.toNat % 4 := by
      have ep : ((2 ^ min (2 * dm).toNat 32 : Nat) : Int) = 4 ^ dm.toNat := by
        rw [show min (2 * dm).toNat 32 = 2 * dm.toNat by omega, Int.natCast_pow, Int.pow_mul]; rfl
      rw [ep]
      have := and_low (k := .u32) rfl hF0 (by show da / 4 ^ dm.toNat < 4294967296; omega) 2 (by decide)
      rw [show (2 : Int) ^ 2 = 4 by decide, show (4 : Int) - 1 = 3 by decide] at this
      exact this
    have e4 : bits .and .i64 ap 1 = ap % 2 := and_i64' 1 (by decide) ap
    rw [e2, e3, e4]
    unfold checkS
    simp only [hb]
    generalize da / 4 ^ dm.toNat = F at hF0 hF1
    have hF : F % 4 = 0 ∨ F % 4 = 1 ∨ F % 4 = 2 ∨ F % 4 = 3 := by omega
    by_cases ha : (afe && decide (ap % 2 = 0)) = true
    · simp [ha, bif_and, t1, t2, t3, t4, t5, t6, g00]
    · have ha : (afe && decide (ap % 2 = 0)) = false := by simpa using ha
      rcases hF with h | h | h | h
      · have h2 : F % 2 = 0 := by omega
        simp [ha, bif_and, t1, t2, t3, t4, t5, t6, g00, h, h2]
      · have h2 : ¬ F % 2 = 0 := by omega
        cases allowB ap xn afe priv kind <;> simp [ha, bif_and, t1, t2, t3, t4, t5, t6, g00, h, h2, Ft.zero]
      · have h2 : F % 2 = 0 := by omega
        simp [ha, bif_and, t1, t2, t3, t4, t5, t6, g00, h, h2]
      · have h2 : ¬ F % 2 = 0 := by omega
        simp [ha, bif_and, t1, t2, t3, t4, t5, t6, g00, h, h2, Ft.zero]
theorem rchkC_ch (sz va pa dm ap bi : Int) (ng xn : Bool) (on tre afe pd0 pd1 : Bool) (cn b0 b1 da pr nm asd : Int) (priv : Bool) (kind : Int) : ∃ r ∈ ([⟨none, some (0 ≤ va ∧ va < 4294967296 ∧ 0 ≤ pa ∧ pa < 18446744073709551616 ∧ 0 ≤ bi ∧ bi < 4294967296 ∧ 0 ≤ da ∧ da < 4294967296), .det (.val (.agg [.int .i64 (.tm (((checkS (Tr.mk sz va pa dm ap bi ng xn) on afe da priv kind)).kind)), .int .i64 (.tm (((checkS (Tr.mk sz va pa dm ap bi ng xn) on afe da priv kind)).level)), .int .i64 (.tm (((checkS (Tr.mk sz va pa dm ap bi ng xn) on afe da priv kind)).dom))])) ([])⟩] : List Res), holdsP r.g ∧ (holdsP r.need → r.r.shaped [] ∧ ∃ anns, fnVC Tryd.prog GTab (callOf Tryd.prog GTab [rightC, levelC, allowsC]) anns Tryd.f8 ((Tryd.f8.body).getD .skip) [.val (.agg [.int .i64 (.tm sz), .int .u32 (.tm va), .int .u64 (.tm pa), .int .i64 (.tm dm), .int .i64 (.tm ap), .int .u32 (.tm bi), .bool (.tm ng), .bool (.tm xn)]), .val (.agg [.bool (.tm on), .bool (.tm tre), .bool (.tm afe), .int .i64 (.tm cn), .bool (.tm pd0), .bool (.tm pd1), .int .u64 (.tm b0), .int .u64 (.tm b1), .int .u32 (.tm da), .int .u32 (.tm pr), .int .u32 (.tm nm), .int .i64 (.tm asd)]), .val (.one (.bool (.tm priv))), .val (.one (.int .i64 (.tm kind)))] [] r) := by
  exact ⟨_, List.mem_cons_self, trivial, fun hn => ⟨trivial, rchkC_p0 sz va pa dm ap bi ng xn on tre afe pd0 pd1 cn b0 b1 da pr nm asd priv kind hn⟩⟩
theorem rchkC_ok : rchkC.ok Tryd.prog GTab := by
  refine con_ok (cs := [rightC, levelC, allowsC]) (body := (Tryd.f8.body).getD .skip) ?_ Tryd.func8 rfl ?_
  · intro c h
    simp only [List.mem_cons, List.not_mem_nil, or_false] at h
    rcases h with rfl | rfl | rfl
    · exact rightC_ok
    · exact levelC_ok
    · exact allowsC_ok
  · intro args h l hl
    unfold rchkC at hl
    dsimp only at hl
    split at hl
    · cases hl
      exact rchkC_ch _ _ _ _ _ _ _ _ _ _ _ _ _ _ _ _ _ _ _ _ _ _
    · cases hl
noncomputable def canC : Con := ⟨25, fun args h => match args, h with
  | [.val (.one (.int .i64 (.tm ap))), .val (.one (.bool (.tm afe))), .val (.one (.bool (.tm priv)))], [] => some [⟨some (canN ap afe priv = 0), some (0 ≤ ap ∧ ap ≤ 7), .det (.val (.one (.cst (.string ⟨#[]⟩)))) ([])⟩, ⟨some (canN ap afe priv = 1), some (0 ≤ ap ∧ ap ≤ 7), .det (.val (.one (.cst (.string ⟨#[114]⟩)))) ([])⟩, ⟨some (canN ap afe priv = 3), some (0 ≤ ap ∧ ap ≤ 7), .det (.val (.one (.cst (.string ⟨#[114, 119]⟩)))) ([])⟩]
  | _, _ => none, true⟩
theorem canC_p0 (ap : Int) (afe priv : Bool) (hg : canN ap afe priv = 0) (hn : 0 ≤ ap ∧ ap ≤ 7) : ∃ anns, fnVC Tryd.prog GTab (callOf Tryd.prog GTab []) anns Tryd.f25 ((Tryd.f25.body).getD .skip) [.val (.one (.int .i64 (.tm ap))), .val (.one (.bool (.tm afe))), .val (.one (.bool (.tm priv)))] [] ⟨some (canN ap afe priv = 0), some (0 ≤ ap ∧ ap ≤ 7), .det (.val (.one (.cst (.string ⟨#[]⟩)))) ([])⟩ := by
  refine ⟨⟨[], [], [], [], [], [], []⟩, ?_⟩
  rw [show fnVC Tryd.prog GTab (callOf Tryd.prog GTab []) ⟨[], [], [], [], [], [], []⟩ Tryd.f25 ((Tryd.f25.body).getD .skip) [.val (.one (.int .i64 (.tm ap))), .val (.one (.bool (.tm afe))), .val (.one (.bool (.tm priv)))] [] ⟨some (canN ap afe priv = 0), some (0 ≤ ap ∧ ap ≤ 7), .det (.val (.one (.cst (.string ⟨#[]⟩)))) ([])⟩ = ((afe = true → (decide (IntKind.i64.wrap (ap.tdiv (2 : Int)) = (0 : Int)) = true → (priv = true → L.cst (Value.string (ByteArray.mk #[(114 : UInt8), (119 : UInt8)])) = L.cst (Value.string (ByteArray.mk #[]))) ∧ (priv = false → L.cst (Value.string (ByteArray.mk #[])) = L.cst (Value.string (ByteArray.mk #[])))) ∧ (decide (IntKind.i64.wrap (ap.tdiv (2 : Int)) = (0 : Int)) = false → (decide (IntKind.i64.wrap (ap.tdiv (2 : Int)) = (1 : Int)) = true → L.cst (Value.string (ByteArray.mk #[(114 : UInt8), (119 : UInt8)])) = L.cst (Value.string (ByteArray.mk #[]))) ∧ (decide (IntKind.i64.wrap (ap.tdiv (2 : Int)) = (1 : Int)) = false → (decide (IntKind.i64.wrap (ap.tdiv (2 : Int)) = (2 : Int)) = true → (priv = true → L.cst (Value.string (ByteArray.mk #[(114 : UInt8)])) = L.cst (Value.string (ByteArray.mk #[]))) ∧ (priv = false → L.cst (Value.string (ByteArray.mk #[])) = L.cst (Value.string (ByteArray.mk #[])))) ∧ (decide (IntKind.i64.wrap (ap.tdiv (2 : Int)) = (2 : Int)) = false → L.cst (Value.string (ByteArray.mk #[(114 : UInt8)])) = L.cst (Value.string (ByteArray.mk #[])))))) ∧ (afe = false → (decide (ap = (1 : Int)) = true → (priv = true → L.cst (Value.string (ByteArray.mk #[(114 : UInt8), (119 : UInt8)])) = L.cst (Value.string (ByteArray.mk #[]))) ∧ (priv = false → L.cst (Value.string (ByteArray.mk #[])) = L.cst (Value.string (ByteArray.mk #[])))) ∧ (decide (ap = (1 : Int)) = false → (decide (ap = (2 : Int)) = true → (priv = true → L.cst (Value.string (ByteArray.mk #[(114 : UInt8), (119 : UInt8)])) = L.cst (Value.string (ByteArray.mk #[]))) ∧ (priv = false → L.cst (Value.string (ByteArray.mk #[(114 : UInt8)])) = L.cst (Value.string (ByteArray.mk #[])))) ∧ (decide (ap = (2 : Int)) = false → (decide (ap = (3 : Int)) = true → L.cst (Value.string (ByteArray.mk #[(114 : UInt8), (119 : UInt8)])) = L.cst (Value.string (ByteArray.mk #[]))) ∧ (decide (ap = (3 : Int)) = false → (decide (ap = (5 : Int)) = true → (priv = true → L.cst (Value.string (ByteArray.mk #[(114 : UInt8)])) = L.cst (Value.string (ByteArray.mk #[]))) ∧ (priv = false → L.cst (Value.string (ByteArray.mk #[])) = L.cst (Value.string (ByteArray.mk #[])))) ∧ (decide (ap = (5 : Int)) = false → (decide (ap = (6 : Int)) = true → (decide (ap = (6 : Int)) = true → L.cst (Value.string (ByteArray.mk #[(114 : UInt8)])) = L.cst (Value.string (ByteArray.mk #[]))) ∧ (decide (ap = (6 : Int)) = false → L.cst (Value.string (ByteArray.mk #[])) = L.cst (Value.string (ByteArray.mk #[])))) ∧ (decide (ap = (6 : Int)) = false → (decide (ap = (7 : Int)) = true → L.cst (Value.string (ByteArray.mk #[(114 : UInt8)])) = L.cst (Value.string (ByteArray.mk #[]))) ∧ (decide (ap = (7 : Int)) = false → L.cst (Value.string (ByteArray.mk #[])) = L.cst (Value.string (ByteArray.mk #[])))))))))) from by kernel_rfl]
  obtain ⟨h0, h1⟩ := hn
  have hap : ap = 0 ∨ ap = 1 ∨ ap = 2 ∨ ap = 3 ∨ ap = 4 ∨ ap = 5 ∨ ap = 6 ∨ ap = 7 := by omega
  have w0 : IntKind.i64.wrap 0 = 0 := by decide
  have w1 : IntKind.i64.wrap 1 = 1 := by decide
  have w2 : IntKind.i64.wrap 2 = 2 := by decide
  have w3 : IntKind.i64.wrap 3 = 3 := by decide
  rcases hap with rfl | rfl | rfl | rfl | rfl | rfl | rfl | rfl <;> cases afe <;> cases priv <;> first | (exfalso; revert hg; decide) | simp [w0, w1, w2, w3]
theorem canC_p1 (ap : Int) (afe priv : Bool) (hg : canN ap afe priv = 1) (hn : 0 ≤ ap ∧ ap ≤ 7) : ∃ anns, fnVC Tryd.prog GTab (callOf Tryd.prog GTab []) anns Tryd.f25 ((Tryd.f25.body).getD .skip) [.val (.one (.int .i64 (.tm ap))), .val (.one (.bool (.tm afe))), .val (.one (.bool (.tm priv)))] [] ⟨some (canN ap afe priv = 1), some (0 ≤ ap ∧ ap ≤ 7), .det (.val (.one (.cst (.string ⟨#[114]⟩)))) ([])⟩ := by
  refine ⟨⟨[], [], [], [], [], [], []⟩, ?_⟩
  rw [show fnVC Tryd.prog GTab (callOf Tryd.prog GTab []) ⟨[], [], [], [], [], [], []⟩ Tryd.f25 ((Tryd.f25.body).getD .skip) [.val (.one (.int .i64 (.tm ap))), .val (.one (.bool (.tm afe))), .val (.one (.bool (.tm priv)))] [] ⟨some (canN ap afe priv = 1), some (0 ≤ ap ∧ ap ≤ 7), .det (.val (.one (.cst (.string ⟨#[114]⟩)))) ([])⟩ = ((afe = true → (decide (IntKind.i64.wrap (ap.tdiv (2 : Int)) = (0 : Int)) = true → (priv = true → L.cst (Value.string (ByteArray.mk #[(114 : UInt8), (119 : UInt8)])) = L.cst (Value.string (ByteArray.mk #[(114 : UInt8)]))) ∧ (priv = false → L.cst (Value.string (ByteArray.mk #[])) = L.cst (Value.string (ByteArray.mk #[(114 : UInt8)])))) ∧ (decide (IntKind.i64.wrap (ap.tdiv (2 : Int)) = (0 : Int)) = false → (decide (IntKind.i64.wrap (ap.tdiv (2 : Int)) = (1 : Int)) = true → L.cst (Value.string (ByteArray.mk #[(114 : UInt8), (119 : UInt8)])) = L.cst (Value.string (ByteArray.mk #[(114 : UInt8)]))) ∧ (decide (IntKind.i64.wrap (ap.tdiv (2 : Int)) = (1 : Int)) = false → (decide (IntKind.i64.wrap (ap.tdiv (2 : Int)) = (2 : Int)) = true → (priv = true → L.cst (Value.string (ByteArray.mk #[(114 : UInt8)])) = L.cst (Value.string (ByteArray.mk #[(114 : UInt8)]))) ∧ (priv = false → L.cst (Value.string (ByteArray.mk #[])) = L.cst (Value.string (ByteArray.mk #[(114 : UInt8)])))) ∧ (decide (IntKind.i64.wrap (ap.tdiv (2 : Int)) = (2 : Int)) = false → L.cst (Value.string (ByteArray.mk #[(114 : UInt8)])) = L.cst (Value.string (ByteArray.mk #[(114 : UInt8)])))))) ∧ (afe = false → (decide (ap = (1 : Int)) = true → (priv = true → L.cst (Value.string (ByteArray.mk #[(114 : UInt8), (119 : UInt8)])) = L.cst (Value.string (ByteArray.mk #[(114 : UInt8)]))) ∧ (priv = false → L.cst (Value.string (ByteArray.mk #[])) = L.cst (Value.string (ByteArray.mk #[(114 : UInt8)])))) ∧ (decide (ap = (1 : Int)) = false → (decide (ap = (2 : Int)) = true → (priv = true → L.cst (Value.string (ByteArray.mk #[(114 : UInt8), (119 : UInt8)])) = L.cst (Value.string (ByteArray.mk #[(114 : UInt8)]))) ∧ (priv = false → L.cst (Value.string (ByteArray.mk #[(114 : UInt8)])) = L.cst (Value.string (ByteArray.mk #[(114 : UInt8)])))) ∧ (decide (ap = (2 : Int)) = false → (decide (ap = (3 : Int)) = true → L.cst (Value.string (ByteArray.mk #[(114 : UInt8), (119 : UInt8)])) = L.cst (Value.string (ByteArray.mk #[(114 : UInt8)]))) ∧ (decide (ap = (3 : Int)) = false → (decide (ap = (5 : Int)) = true → (priv = true → L.cst (Value.string (ByteArray.mk #[(114 : UInt8)])) = L.cst (Value.string (ByteArray.mk #[(114 : UInt8)]))) ∧ (priv = false → L.cst (Value.string (ByteArray.mk #[])) = L.cst (Value.string (ByteArray.mk #[(114 : UInt8)])))) ∧ (decide (ap = (5 : Int)) = false → (decide (ap = (6 : Int)) = true → (decide (ap = (6 : Int)) = true → L.cst (Value.string (ByteArray.mk #[(114 : UInt8)])) = L.cst (Value.string (ByteArray.mk #[(114 : UInt8)]))) ∧ (decide (ap = (6 : Int)) = false → L.cst (Value.string (ByteArray.mk #[])) = L.cst (Value.string (ByteArray.mk #[(114 : UInt8)])))) ∧ (decide (ap = (6 : Int)) = false → (decide (ap = (7 : Int)) = true → L.cst (Value.string (ByteArray.mk #[(114 : UInt8)])) = L.cst (Value.string (ByteArray.mk #[(114 : UInt8)]))) ∧ (decide (ap = (7 : Int)) = false → L.cst (Value.string (ByteArray.mk #[])) = L.cst (Value.string (ByteArray.mk #[(114 : UInt8)])))))))))) from by kernel_rfl]
  obtain ⟨h0, h1⟩ := hn
  have hap : ap = 0 ∨ ap = 1 ∨ ap = 2 ∨ ap = 3 ∨ ap = 4 ∨ ap = 5 ∨ ap = 6 ∨ ap = 7 := by omega
  have w0 : IntKind.i64.wrap 0 = 0 := by decide
  have w1 : IntKind.i64.wrap 1 = 1 := by decide
  have w2 : IntKind.i64.wrap 2 = 2 := by decide
  have w3 : IntKind.i64.wrap 3 = 3 := by decide
  rcases hap with rfl | rfl | rfl | rfl | rfl | rfl | rfl | rfl <;> cases afe <;> cases priv <;> first | (exfalso; revert hg; decide) | simp [w0, w1, w2, w3]
theorem canC_p2 (ap : Int) (afe priv : Bool) (hg : canN ap afe priv = 3) (hn : 0 ≤ ap ∧ ap ≤ 7) : ∃ anns, fnVC Tryd.prog GTab (callOf Tryd.prog GTab []) anns Tryd.f25 ((Tryd.f25.body).getD .skip) [.val (.one (.int .i64 (.tm ap))), .val (.one (.bool (.tm afe))), .val (.one (.bool (.tm priv)))] [] ⟨some (canN ap afe priv = 3), some (0 ≤ ap ∧ ap ≤ 7), .det (.val (.one (.cst (.string ⟨#[114, 119]⟩)))) ([])⟩ := by
  refine ⟨⟨[], [], [], [], [], [], []⟩, ?_⟩
  rw [show fnVC Tryd.prog GTab (callOf Tryd.prog GTab []) ⟨[], [], [], [], [], [], []⟩ Tryd.f25 ((Tryd.f25.body).getD .skip) [.val (.one (.int .i64 (.tm ap))), .val (.one (.bool (.tm afe))), .val (.one (.bool (.tm priv)))] [] ⟨some (canN ap afe priv = 3), some (0 ≤ ap ∧ ap ≤ 7), .det (.val (.one (.cst (.string ⟨#[114, 119]⟩)))) ([])⟩ = ((afe = true → (decide (IntKind.i64.wrap (ap.tdiv (2 : Int)) = (0 : Int)) = true → (priv = true → L.cst (Value.string (ByteArray.mk #[(114 : UInt8), (119 : UInt8)])) = L.cst (Value.string (ByteArray.mk #[(114 : UInt8), (119 : UInt8)]))) ∧ (priv = false → L.cst (Value.string (ByteArray.mk #[])) = L.cst (Value.string (ByteArray.mk #[(114 : UInt8), (119 : UInt8)])))) ∧ (decide (IntKind.i64.wrap (ap.tdiv (2 : Int)) = (0 : Int)) = false → (decide (IntKind.i64.wrap (ap.tdiv (2 : Int)) = (1 : Int)) = true → L.cst (Value.string (ByteArray.mk #[(114 : UInt8), (119 : UInt8)])) = L.cst (Value.string (ByteArray.mk #[(114 : UInt8), (119 : UInt8)]))) ∧ (decide (IntKind.i64.wrap (ap.tdiv (2 : Int)) = (1 : Int)) = false → (decide (IntKind.i64.wrap (ap.tdiv (2 : Int)) = (2 : Int)) = true → (priv = true → L.cst (Value.string (ByteArray.mk #[(114 : UInt8)])) = L.cst (Value.string (ByteArray.mk #[(114 : UInt8), (119 : UInt8)]))) ∧ (priv = false → L.cst (Value.string (ByteArray.mk #[])) = L.cst (Value.string (ByteArray.mk #[(114 : UInt8), (119 : UInt8)])))) ∧ (decide (IntKind.i64.wrap (ap.tdiv (2 : Int)) = (2 : Int)) = false → L.cst (Value.string (ByteArray.mk #[(114 : UInt8)])) = L.cst (Value.string (ByteArray.mk #[(114 : UInt8), (119 : UInt8)])))))) ∧ (afe = false → (decide (ap = (1 : Int)) = true → (priv = true → L.cst (Value.string (ByteArray.mk #[(114 : UInt8), (119 : UInt8)])) = L.cst (Value.string (ByteArray.mk #[(114 : UInt8), (119 : UInt8)]))) ∧ (priv = false → L.cst (Value.string (ByteArray.mk #[])) = L.cst (Value.string (ByteArray.mk #[(114 : UInt8), (119 : UInt8)])))) ∧ (decide (ap = (1 : Int)) = false → (decide (ap = (2 : Int)) = true → (priv = true → L.cst (Value.string (ByteArray.mk #[(114 : UInt8), (119 : UInt8)])) = L.cst (Value.string (ByteArray.mk #[(114 : UInt8), (119 : UInt8)]))) ∧ (priv = false → L.cst (Value.string (ByteArray.mk #[(114 : UInt8)])) = L.cst (Value.string (ByteArray.mk #[(114 : UInt8), (119 : UInt8)])))) ∧ (decide (ap = (2 : Int)) = false → (decide (ap = (3 : Int)) = true → L.cst (Value.string (ByteArray.mk #[(114 : UInt8), (119 : UInt8)])) = L.cst (Value.string (ByteArray.mk #[(114 : UInt8), (119 : UInt8)]))) ∧ (decide (ap = (3 : Int)) = false → (decide (ap = (5 : Int)) = true → (priv = true → L.cst (Value.string (ByteArray.mk #[(114 : UInt8)])) = L.cst (Value.string (ByteArray.mk #[(114 : UInt8), (119 : UInt8)]))) ∧ (priv = false → L.cst (Value.string (ByteArray.mk #[])) = L.cst (Value.string (ByteArray.mk #[(114 : UInt8), (119 : UInt8)])))) ∧ (decide (ap = (5 : Int)) = false → (decide (ap = (6 : Int)) = true → (decide (ap = (6 : Int)) = true → L.cst (Value.string (ByteArray.mk #[(114 : UInt8)])) = L.cst (Value.string (ByteArray.mk #[(114 : UInt8), (119 : UInt8)]))) ∧ (decide (ap = (6 : Int)) = false → L.cst (Value.string (ByteArray.mk #[])) = L.cst (Value.string (ByteArray.mk #[(114 : UInt8), (119 : UInt8)])))) ∧ (decide (ap = (6 : Int)) = false → (decide (ap = (7 : Int)) = true → L.cst (Value.string (ByteArray.mk #[(114 : UInt8)])) = L.cst (Value.string (ByteArray.mk #[(114 : UInt8), (119 : UInt8)]))) ∧ (decide (ap = (7 : Int)) = false → L.cst (Value.string (ByteArray.mk #[])) = L.cst (Value.string (ByteArray.mk #[(114 : UInt8), (119 : UInt8)])))))))))) from by kernel_rfl]
  obtain ⟨h0, h1⟩ := hn
  have hap : ap = 0 ∨ ap = 1 ∨ ap = 2 ∨ ap = 3 ∨ ap = 4 ∨ ap = 5 ∨ ap = 6 ∨ ap = 7 := by omega
  have w0 : IntKind.i64.wrap 0 = 0 := by decide
  have w1 : IntKind.i64.wrap 1 = 1 := by decide
  have w2 : IntKind.i64.wrap 2 = 2 := by decide
  have w3 : IntKind.i64.wrap 3 = 3 := by decide
  rcases hap with rfl | rfl | rfl | rfl | rfl | rfl | rfl | rfl <;> cases afe <;> cases priv <;> first | (exfalso; revert hg; decide) | simp [w0, w1, w2, w3]
theorem canC_ch (ap : Int) (afe priv : Bool) : ∃ r ∈ ([⟨some (canN ap afe priv = 0), some (0 ≤ ap ∧ ap ≤ 7), .det (.val (.one (.cst (.string ⟨#[]⟩)))) ([])⟩, ⟨some (canN ap afe priv = 1), some (0 ≤ ap ∧ ap ≤ 7), .det (.val (.one (.cst (.string ⟨#[114]⟩)))) ([])⟩, ⟨some (canN ap afe priv = 3), some (0 ≤ ap ∧ ap ≤ 7), .det (.val (.one (.cst (.string ⟨#[114, 119]⟩)))) ([])⟩] : List Res), holdsP r.g ∧ (holdsP r.need → r.r.shaped [] ∧ ∃ anns, fnVC Tryd.prog GTab (callOf Tryd.prog GTab []) anns Tryd.f25 ((Tryd.f25.body).getD .skip) [.val (.one (.int .i64 (.tm ap))), .val (.one (.bool (.tm afe))), .val (.one (.bool (.tm priv)))] [] r) := by
  have hx : (canN ap afe priv = 0) ∨ (canN ap afe priv = 1) ∨ (canN ap afe priv = 3) := by
    exact can_or ap afe priv
  rcases hx with h | h | h
  · exact ⟨_, List.mem_cons_self, h, fun hn => ⟨trivial, canC_p0 ap afe priv h hn⟩⟩
  · exact ⟨_, (List.mem_cons_of_mem _ List.mem_cons_self), h, fun hn => ⟨trivial, canC_p1 ap afe priv h hn⟩⟩
  · exact ⟨_, (List.mem_cons_of_mem _ (List.mem_cons_of_mem _ List.mem_cons_self)), h, fun hn => ⟨trivial, canC_p2 ap afe priv h hn⟩⟩
theorem canC_ok : canC.ok Tryd.prog GTab := by
  refine con_ok (cs := []) (body := (Tryd.f25.body).getD .skip) ?_ Tryd.func25 rfl ?_
  · intro c h; cases h
  · intro args h l hl
    unfold canC at hl
    dsimp only at hl
    split at hl
    · cases hl
      exact canC_ch _ _ _
    · cases hl
noncomputable def rallowsC : Con := ⟨21, fun args h => match args, h with
  | [.val (.agg [.int .i64 (.tm ap), .int .u32 (.tm bi), .bool (.tm ng), .bool (.tm xn)]), .val (.one (.bool (.tm afe))), .val (.one (.bool (.tm priv))), .val (.one (.int .i64 (.tm kind)))], [] => some [⟨none, none, .det (.val (.one (.bool (.tm (allowB ap xn afe priv kind))))) ([])⟩]
  | _, _ => none, true⟩
theorem rallowsC_p0 (ap bi : Int) (ng xn afe priv : Bool) (kind : Int) : ∃ anns, fnVC Tryd.prog GTab (callOf Tryd.prog GTab [canC]) anns Tryd.f21 ((Tryd.f21.body).getD .skip) [.val (.agg [.int .i64 (.tm ap), .int .u32 (.tm bi), .bool (.tm ng), .bool (.tm xn)]), .val (.one (.bool (.tm afe))), .val (.one (.bool (.tm priv))), .val (.one (.int .i64 (.tm kind)))] [] ⟨none, none, .det (.val (.one (.bool (.tm (allowB ap xn afe priv kind))))) ([])⟩ := by
  refine ⟨⟨[], [], [], [], [], [], []⟩, ?_⟩
  rw [show fnVC Tryd.prog GTab (callOf Tryd.prog GTab [canC]) ⟨[], [], [], [], [], [], []⟩ Tryd.f21 ((Tryd.f21.body).getD .skip) [.val (.agg [.int .i64 (.tm ap), .int .u32 (.tm bi), .bool (.tm ng), .bool (.tm xn)]), .val (.one (.bool (.tm afe))), .val (.one (.bool (.tm priv))), .val (.one (.int .i64 (.tm kind)))] [] ⟨none, none, .det (.val (.one (.bool (.tm (allowB ap xn afe priv kind))))) ([])⟩ = (((!decide (ap < (0 : Int))) = true → (!decide (ap < (0 : Int))) = true) ∧ ((!decide (ap < (0 : Int))) = true → (!decide (ap < (0 : Int))) = true) ∧ (decide (ap < (0 : Int)) = false → (!decide (ap < (0 : Int))) = true) ∧ ((bif decide (ap < (0 : Int)) then true else decide ((7 : Int) < ap)) = true → false = allowB ap xn afe priv kind) ∧ ((bif decide (ap < (0 : Int)) then true else decide ((7 : Int) < ap)) = false → (canN ap afe priv = (0 : Int) → ((0 : Int) ≤ ap ∧ ap ≤ (7 : Int)) ∧ (decide (kind = (1 : Int)) = true → ((!(ByteArray.mk #[]).toList == (ByteArray.mk #[]).toList) = true → (!(ByteArray.mk #[]).toList == (ByteArray.mk #[]).toList) = true) ∧ ((!(ByteArray.mk #[]).toList == (ByteArray.mk #[]).toList) = true → (!(ByteArray.mk #[]).toList == (ByteArray.mk #[]).toList) = true) ∧ ((!(ByteArray.mk #[]).toList == (ByteArray.mk #[]).toList) = true → (!(ByteArray.mk #[]).toList == (ByteArray.mk #[]).toList) = true) ∧ (bif !(ByteArray.mk #[]).toList == (ByteArray.mk #[]).toList then !xn else false) = allowB ap xn afe priv kind) ∧ (decide (kind = (1 : Int)) = false → (decide (kind = (2 : Int)) = true → (!(ByteArray.mk #[]).toList == (ByteArray.mk #[]).toList) = allowB ap xn afe priv kind) ∧ (decide (kind = (2 : Int)) = false → (decide (kind = (3 : Int)) = true → ((ByteArray.mk #[]).toList == (ByteArray.mk #[(114 : UInt8), (119 : UInt8)]).toList) = allowB ap xn afe priv kind) ∧ (decide (kind = (3 : Int)) = false → false = allowB ap xn afe priv kind)))) ∧ (canN ap afe priv = (1 : Int) → ((0 : Int) ≤ ap ∧ ap ≤ (7 : Int)) ∧ (decide (kind = (1 : Int)) = true → ((!(ByteArray.mk #[(114 : UInt8)]).toList == (ByteArray.mk #[]).toList) = true → (!(ByteArray.mk #[(114 : UInt8)]).toList == (ByteArray.mk #[]).toList) = true) ∧ ((!(ByteArray.mk #[(114 : UInt8)]).toList == (ByteArray.mk #[]).toList) = true → (!(ByteArray.mk #[(114 : UInt8)]).toList == (ByteArray.mk #[]).toList) = true) ∧ ((!(ByteArray.mk #[(114 : UInt8)]).toList == (ByteArray.mk #[]).toList) = true → (!(ByteArray.mk #[(114 : UInt8)]).toList == (ByteArray.mk #[]).toList) = true) ∧ (bif !(ByteArray.mk #[(114 : UInt8)]).toList == (ByteArray.mk #[]).toList then !xn else false) = allowB ap xn afe priv kind) ∧ (decide (kind = (1 : Int)) = false → (decide (kind = (2 : Int)) = true → (!(ByteArray.mk #[(114 : UInt8)]).toList == (ByteArray.mk #[]).toList) = allowB ap xn afe priv kind) ∧ (decide (kind = (2 : Int)) = false → (decide (kind = (3 : Int)) = true → ((ByteArray.mk #[(114 : UInt8)]).toList == (ByteArray.mk #[(114 : UInt8), (119 : UInt8)]).toList) = allowB ap xn afe priv kind) ∧ (decide (kind = (3 : Int)) = false → false = allowB ap xn afe priv kind)))) ∧ (canN ap afe priv = (3 : Int) → ((0 : Int) ≤ ap ∧ ap ≤ (7 : Int)) ∧ (decide (kind = (1 : Int)) = true → ((!(ByteArray.mk #[(114 : UInt8), (119 : UInt8)]).toList == (ByteArray.mk #[]).toList) = true → (!(ByteArray.mk #[(114 : UInt8), (119 : UInt8)]).toList == (ByteArray.mk #[]).toList) = true) ∧ ((!(ByteArray.mk #[(114 : UInt8), (119 : UInt8)]).toList == (ByteArray.mk #[]).toList) = true → (!(ByteArray.mk #[(114 : UInt8), (119 : UInt8)]).toList == (ByteArray.mk #[]).toList) = true) ∧ ((!(ByteArray.mk #[(114 : UInt8), (119 : UInt8)]).toList == (ByteArray.mk #[]).toList) = true → (!(ByteArray.mk #[(114 : UInt8), (119 : UInt8)]).toList == (ByteArray.mk #[]).toList) = true) ∧ (bif !(ByteArray.mk #[(114 : UInt8), (119 : UInt8)]).toList == (ByteArray.mk #[]).toList then !xn else false) = allowB ap xn afe priv kind) ∧ (decide (kind = (1 : Int)) = false → (decide (kind = (2 : Int)) = true → (!(ByteArray.mk #[(114 : UInt8), (119 : UInt8)]).toList == (ByteArray.mk #[]).toList) = allowB ap xn afe priv kind) ∧ (decide (kind = (2 : Int)) = false → (decide (kind = (3 : Int)) = true → ((ByteArray.mk #[(114 : UInt8), (119 : UInt8)]).toList == (ByteArray.mk #[(114 : UInt8), (119 : UInt8)]).toList) = allowB ap xn afe priv kind) ∧ (decide (kind = (3 : Int)) = false → false = allowB ap xn afe priv kind)))))) from by kernel_rfl]
  by_cases hout : ap < 0 ∨ 7 < ap
  · have e1 : (bif decide (ap < 0) then true else decide (7 < ap)) = true := by rw [bif_or]; simpa using hout
    have e2 : allowB ap xn afe priv kind = false := by
      unfold allowB
      rcases hout with h | h
      · rw [decide_eq_false (show ¬ 0 ≤ ap by omega)]; rfl
      · rw [decide_eq_false (show ¬ ap ≤ 7 by omega), Bool.and_false]; rfl
    rw [e1, e2]
    exact ⟨id, id, fun h => by rw [h]; rfl, fun _ => rfl, fun h => by cases h⟩
  have s00 : ((ByteArray.mk #[]).toList == (ByteArray.mk #[]).toList) = true := by decide +kernel
  have s10 : ((ByteArray.mk #[114]).toList == (ByteArray.mk #[]).toList) = false := by decide +kernel
  have s30 : ((ByteArray.mk #[114, 119]).toList == (ByteArray.mk #[]).toList) = false := by decide +kernel
  have s03 : ((ByteArray.mk #[]).toList == (ByteArray.mk #[114, 119]).toList) = false := by decide +kernel
  have s13 : ((ByteArray.mk #[114]).toList == (ByteArray.mk #[114, 119]).toList) = false := by decide +kernel
  have s33 : ((ByteArray.mk #[114, 119]).toList == (ByteArray.mk #[114, 119]).toList) = true := by decide +kernel
  rw [s00, s10, s30, s03, s13, s33]
  have h0 : 0 ≤ ap := by omega
  have h7 : ap ≤ 7 := by omega
  unfold allowB
  have o1 : ¬ ap < 0 := by omega
  have o2 : ¬ 7 < ap := by omega
  have hk : kind = 1 ∨ kind = 2 ∨ kind = 3 ∨ (¬ kind = 1 ∧ ¬ kind = 2 ∧ ¬ kind = 3) := by omega
  rcases can_or ap afe priv with h | h | h <;> rcases hk with rfl | rfl | rfl | ⟨k1, k2, k3⟩ <;> first | (simp [h, h0, h7, o1, o2]; done) | simp [h, h0, h7, o1, o2, k1, k2, k3]
theorem rallowsC_ch (ap bi : Int) (ng xn afe priv : Bool) (kind : Int) : ∃ r ∈ ([⟨none, none, .det (.val (.one (.bool (.tm (allowB ap xn afe priv kind))))) ([])⟩] : List Res), holdsP r.g ∧ (holdsP r.need → r.r.shaped [] ∧ ∃ anns, fnVC Tryd.prog GTab (callOf Tryd.prog GTab [canC]) anns Tryd.f21 ((Tryd.f21.body).getD .skip) [.val (.agg [.int .i64 (.tm ap), .int .u32 (.tm bi), .bool (.tm ng), .bool (.tm xn)]), .val (.one (.bool (.tm afe))), .val (.one (.bool (.tm priv))), .val (.one (.int .i64 (.tm kind)))] [] r) := by
  exact ⟨_, List.mem_cons_self, trivial, fun _ => ⟨trivial, rallowsC_p0 ap bi ng xn afe priv kind⟩⟩
theorem rallowsC_ok : rallowsC.ok Tryd.prog GTab := by
  refine con_ok (cs := [canC]) (body := (Tryd.f21.body).getD .skip) ?_ Tryd.func21 rfl ?_
  · intro c h
    simp only [List.mem_cons, List.not_mem_nil, or_false] at h
    rcases h with rfl
    · exact canC_ok
  · intro args h l hl
    unfold rallowsC at hl
    dsimp only at hl
    split at hl
    · cases hl
      exact rallowsC_ch _ _ _ _ _ _ _
    · cases hl
noncomputable def rrchkC : Con := ⟨10, fun args h => match args, h with
  | [.val (.agg [.int .i64 (.tm sz), .int .u32 (.tm va), .int .u64 (.tm pa), .int .i64 (.tm dm), .int .i64 (.tm ap), .int .u32 (.tm bi), .bool (.tm ng), .bool (.tm xn)]), .val (.agg [.bool (.tm on), .bool (.tm tre), .bool (.tm afe), .int .i64 (.tm cn), .bool (.tm pd0), .bool (.tm pd1), .int .u64 (.tm b0), .int .u64 (.tm b1), .int .u32 (.tm da), .int .u32 (.tm pr), .int .u32 (.tm nm), .int .i64 (.tm asd)]), .val (.one (.bool (.tm priv))), .val (.one (.int .i64 (.tm kind)))], [] => some [⟨none, some (0 ≤ va ∧ va < 4294967296 ∧ 0 ≤ pa ∧ pa < 18446744073709551616 ∧ 0 ≤ bi ∧ bi < 4294967296 ∧ 0 ≤ da ∧ da < 4294967296), .det (.val (.agg [.int .i64 (.tm (((checkS (Tr.mk sz va pa dm ap bi ng xn) on afe da priv kind)).kind)), .int .i64 (.tm (((checkS (Tr.mk sz va pa dm ap bi ng xn) on afe da priv kind)).level)), .int .i64 (.tm (((checkS (Tr.mk sz va pa dm ap bi ng xn) on afe da priv kind)).dom))])) ([])⟩]
  | _, _ => none, true⟩
theorem rrchkC_p0 (sz va pa dm ap bi : Int) (ng xn : Bool) (on tre afe pd0 pd1 : Bool) (cn b0 b1 da pr nm asd : Int) (priv : Bool) (kind : Int) (hn : 0 ≤ va ∧ va < 4294967296 ∧ 0 ≤ pa ∧ pa < 18446744073709551616 ∧ 0 ≤ bi ∧ bi < 4294967296 ∧ 0 ≤ da ∧ da < 4294967296) : ∃ anns, fnVC Tryd.prog GTab (callOf Tryd.prog GTab [rrightC, rlevelC, rallowsC]) anns Tryd.f10 ((Tryd.f10.body).getD .skip) [.val (.agg [.int .i64 (.tm sz), .int .u32 (.tm va), .int .u64 (.tm pa), .int .i64 (.tm dm), .int .i64 (.tm ap), .int .u32 (.tm bi), .bool (.tm ng), .bool (.tm xn)]), .val (.agg [.bool (.tm on), .bool (.tm tre), .bool (.tm afe), .int .i64 (.tm cn), .bool (.tm pd0), .bool (.tm pd1), .int .u64 (.tm b0), .int .u64 (.tm b1), .int .u32 (.tm da), .int .u32 (.tm pr), .int .u32 (.tm nm), .int .i64 (.tm asd)]), .val (.one (.bool (.tm priv))), .val (.one (.int .i64 (.tm kind)))] [] ⟨none, some (0 ≤ va ∧ va < 4294967296 ∧ 0 ≤ pa ∧ pa < 18446744073709551616 ∧ 0 ≤ bi ∧ bi < 4294967296 ∧ 0 ≤ da ∧ da < 4294967296), .det (.val (.agg [.int .i64 (.tm (((checkS (Tr.mk sz va pa dm ap bi ng xn) on afe da priv kind)).kind)), .int .i64 (.tm (((checkS (Tr.mk sz va pa dm ap bi ng xn) on afe da priv kind)).level)), .int .i64 (.tm (((checkS (Tr.mk sz va pa dm ap bi ng xn) on afe da priv kind)).dom))])) ([])⟩ := by
  refine ⟨⟨[⟨Nat, fun σ x => setT [(10, .val (.one (.int .u32 (.tm (da / 4 ^ x))))), (11, .val (.one (.int .i64 (.tm ((x : Int))))))] σ, fun σ x => x ≤ dm.toNat ∧ rightS (Tr.mk sz va pa dm ap bi ng xn) = true, fun x => dm.toNat - x⟩], [], [], [], [], [], []⟩, ?_⟩
  rw [show fnVC Tryd.prog GTab (callOf Tryd.prog GTab [rrightC, rlevelC, rallowsC]) ⟨[⟨Nat, fun σ x => setT [(10, .val (.one (.int .u32 (.tm (da / 4 ^ x))))), (11, .val (.one (.int .i64 (.tm ((x : Int))))))] σ, fun σ x => x ≤ dm.toNat ∧ rightS (Tr.mk sz va pa dm ap bi ng xn) = true, fun x => dm.toNat - x⟩], [], [], [], [], [], []⟩ Tryd.f10 ((Tryd.f10.body).getD .skip) [.val (.agg [.int .i64 (.tm sz), .int .u32 (.tm va), .int .u64 (.tm pa), .int .i64 (.tm dm), .int .i64 (.tm ap), .int .u32 (.tm bi), .bool (.tm ng), .bool (.tm xn)]), .val (.agg [.bool (.tm on), .bool (.tm tre), .bool (.tm afe), .int .i64 (.tm cn), .bool (.tm pd0), .bool (.tm pd1), .int .u64 (.tm b0), .int .u64 (.tm b1), .int .u32 (.tm da), .int .u32 (.tm pr), .int .u32 (.tm nm), .int .i64 (.tm asd)]), .val (.one (.bool (.tm priv))), .val (.one (.int .i64 (.tm kind)))] [] ⟨none, some (0 ≤ va ∧ va < 4294967296 ∧ 0 ≤ pa ∧ pa < 18446744073709551616 ∧ 0 ≤ bi ∧ bi < 4294967296 ∧ 0 ≤ da ∧ da < 4294967296), .det (.val (.agg [.int .i64 (.tm (((checkS (Tr.mk sz va pa dm ap bi ng xn) on afe da priv kind)).kind)), .int .i64 (.tm (((checkS (Tr.mk sz va pa dm ap bi ng xn) on afe da priv kind)).level)), .int .i64 (.tm (((checkS (Tr.mk sz va pa dm ap bi ng xn) on afe da priv kind)).dom))])) ([])⟩ = ((((!!on) = true → (!!on) = true) ∧ ((!!on) = true → (0 : Int) ≤ va ∧ va < (4294967296 : Int) ∧ (0 : Int) ≤ pa ∧ pa < (18446744073709551616 : Int) ∧ (0 : Int) ≤ bi ∧ bi < (4294967296 : Int))) ∧ ((!!on) = true → (!!on) = true) ∧ ((!on) = false → (!!on) = true) ∧ ((bif !on then true else !rightS (Tr.mk sz va pa dm ap bi ng xn)) = true → (0 : Int) = (checkS (Tr.mk sz va pa dm ap bi ng xn) on afe da priv kind).kind ∧ (0 : Int) = (checkS (Tr.mk sz va pa dm ap bi ng xn) on afe da priv kind).level ∧ (0 : Int) = (checkS (Tr.mk sz va pa dm ap bi ng xn) on afe da priv kind).dom) ∧ ((bif !on then true else !rightS (Tr.mk sz va pa dm ap bi ng xn)) = false → (∃ (x : Nat), (x ≤ dm.toNat ∧ rightS (Tr.mk sz va pa dm ap bi ng xn) = true) ∧ ((sz = sz ∧ va = va ∧ pa = pa ∧ dm = dm ∧ ap = ap ∧ bi = bi ∧ ng = ng ∧ xn = xn) ∧ (on = on ∧ tre = tre ∧ afe = afe ∧ cn = cn ∧ pd0 = pd0 ∧ pd1 = pd1 ∧ b0 = b0 ∧ b1 = b1 ∧ da = da ∧ pr = pr ∧ nm = nm ∧ asd = asd) ∧ priv = priv ∧ kind = kind ∧ da = da / (4 : Int) ^ x ∧ (0 : Int) = (↑x : Int) ∧ on = on ∧ (!on) = !on ∧ (!on) = !on ∧ ((bif !on then true else !rightS (Tr.mk sz va pa dm ap bi ng xn)) = bif !on then true else !rightS (Tr.mk sz va pa dm ap bi ng xn)) ∧ sz = sz ∧ levelS sz = levelS sz ∧ dm = dm ∧ (levelS sz = levelS sz ∧ dm = dm) ∧ da = da) ∧ (sz = sz ∧ va = va ∧ pa = pa ∧ dm = dm ∧ ap = ap ∧ bi = bi ∧ ng = ng ∧ xn = xn) ∧ (on = on ∧ tre = tre ∧ afe = afe ∧ cn = cn ∧ pd0 = pd0 ∧ pd1 = pd1 ∧ b0 = b0 ∧ b1 = b1 ∧ da = da ∧ pr = pr ∧ nm = nm ∧ asd = asd) ∧ levelS sz = levelS sz ∧ dm = dm) ∧ ∀ (x : Nat), x ≤ dm.toNat ∧ rightS (Tr.mk sz va pa dm ap bi ng xn) = true → (decide ((↑x : Int) < dm) = true → ∃ (y : Nat), (y ≤ dm.toNat ∧ rightS (Tr.mk sz va pa dm ap bi ng xn) = true) ∧ dm.toNat - y < dm.toNat - x ∧ ((sz = sz ∧ va = va ∧ pa = pa ∧ dm = dm ∧ ap = ap ∧ bi = bi ∧ ng = ng ∧ xn = xn) ∧ (on = on ∧ tre = tre ∧ afe = afe ∧ cn = cn ∧ pd0 = pd0 ∧ pd1 = pd1 ∧ b0 = b0 ∧ b1 = b1 ∧ da = da ∧ pr = pr ∧ nm = nm ∧ asd = asd) ∧ priv = priv ∧ kind = kind ∧ IntKind.u32.wrap ((da / (4 : Int) ^ x).tdiv (4 : Int)) = da / (4 : Int) ^ y ∧ IntKind.i64.wrap ((↑x : Int) + (1 : Int)) = (↑y : Int) ∧ on = on ∧ (!on) = !on ∧ (!on) = !on ∧ ((bif !on then true else !rightS (Tr.mk sz va pa dm ap bi ng xn)) = bif !on then true else !rightS (Tr.mk sz va pa dm ap bi ng xn)) ∧ sz = sz ∧ levelS sz = levelS sz ∧ dm = dm ∧ (levelS sz = levelS sz ∧ dm = dm) ∧ da = da) ∧ (sz = sz ∧ va = va ∧ pa = pa ∧ dm = dm ∧ ap = ap ∧ bi = bi ∧ ng = ng ∧ xn = xn) ∧ (on = on ∧ tre = tre ∧ afe = afe ∧ cn = cn ∧ pd0 = pd0 ∧ pd1 = pd1 ∧ b0 = b0 ∧ b1 = b1 ∧ da = da ∧ pr = pr ∧ nm = nm ∧ asd = asd) ∧ levelS sz = levelS sz ∧ dm = dm) ∧ (decide ((↑x : Int) < dm) = false → (afe = true → afe = true) ∧ (afe = true → afe = true) ∧ (afe = true → afe = true) ∧ (afe = true → afe = true) ∧ (afe = true → afe = true) ∧ ((bif afe then decide (ap.tmod (2 : Int) = (0 : Int)) else false) = true → (7 : Int) = (checkS (Tr.mk sz va pa dm ap bi ng xn) on afe da priv kind).kind ∧ levelS sz = (checkS (Tr.mk sz va pa dm ap bi ng xn) on afe da priv kind).level ∧ dm = (checkS (Tr.mk sz va pa dm ap bi ng xn) on afe da priv kind).dom) ∧ ((bif afe then decide (ap.tmod (2 : Int) = (0 : Int)) else false) = false → (decide ((da / (4 : Int) ^ x).tmod (2 : Int) = (0 : Int)) = true → (8 : Int) = (checkS (Tr.mk sz va pa dm ap bi ng xn) on afe da priv kind).kind ∧ levelS sz = (checkS (Tr.mk sz va pa dm ap bi ng xn) on afe da priv kind).level ∧ dm = (checkS (Tr.mk sz va pa dm ap bi ng xn) on afe da priv kind).dom) ∧ (decide ((da / (4 : Int) ^ x).tmod (2 : Int) = (0 : Int)) = false → (decide ((da / (4 : Int) ^ x).tmod (4 : Int) = (3 : Int)) = true → (0 : Int) = (checkS (Tr.mk sz va pa dm ap bi ng xn) on afe da priv kind).kind ∧ (0 : Int) = (checkS (Tr.mk sz va pa dm ap bi ng xn) on afe da priv kind).level ∧ (0 : Int) = (checkS (Tr.mk sz va pa dm ap bi ng xn) on afe da priv kind).dom) ∧ (decide ((da / (4 : Int) ^ x).tmod (4 : Int) = (3 : Int)) = false → ((!allowB ap xn afe priv kind) = true → (9 : Int) = (checkS (Tr.mk sz va pa dm ap bi ng xn) on afe da priv kind).kind ∧ levelS sz = (checkS (Tr.mk sz va pa dm ap bi ng xn) on afe da priv kind).level ∧ dm = (checkS (Tr.mk sz va pa dm ap bi ng xn) on afe da priv kind).dom) ∧ ((!allowB ap xn afe priv kind) = false → (0 : Int) = (checkS (Tr.mk sz va pa dm ap bi ng xn) on afe da priv kind).kind ∧ (0 : Int) = (checkS (Tr.mk sz va pa dm ap bi ng xn) on afe da priv kind).level ∧ (0 : Int) = (checkS (Tr.mk sz va pa dm ap bi ng xn) on afe da priv kind).dom))))))) from by kernel_rfl]
  obtain ⟨t1, t2, t3, t4, t5, t6, d1, d2⟩ := hn
  have hcond : (bif !on then true else !rightS (Tr.mk sz va pa dm ap bi ng xn)) = !(on && rightS (Tr.mk sz va pa dm ap bi ng xn)) := by cases on <;> simp
  rw [hcond]
  cases hb : (on && rightS (Tr.mk sz va pa dm ap bi ng xn)) with
  | false =>
    have e : checkS (Tr.mk sz va pa dm ap bi ng xn) on afe da priv kind = Ft.zero := by unfold checkS; rw [if_pos hb]
    rw [e]
    exact ⟨⟨id, fun _ => ⟨t1, t2, t3, t4, t5, t6⟩⟩, id, fun h => by rw [h]; rfl, fun _ => ⟨rfl, rfl, rfl⟩, fun h => by cases h⟩
  | true =>
    have hr : rightS (Tr.mk sz va pa dm ap bi ng xn) = true := by simp only [Bool.and_eq_true] at hb; exact hb.2
    obtain ⟨g0, g1⟩ : 0 ≤ dm ∧ dm ≤ 15 := right_dom hr
    obtain ⟨g2, g3⟩ : 0 ≤ ap ∧ ap ≤ 7 := right_leaf hr
    refine ⟨⟨id, fun _ => ⟨t1, t2, t3, t4, t5, t6⟩⟩, id, fun h => by rw [h]; rfl, fun h => (by cases h), fun _ => ⟨⟨0, ⟨Nat.zero_le _, hr⟩, ⟨⟨rfl, rfl, rfl, rfl, rfl, rfl, rfl, rfl⟩, ⟨rfl, rfl, rfl, rfl, rfl, rfl, rfl, rfl, rfl, rfl, rfl, rfl⟩, rfl, rfl, by simp⟩, ⟨rfl, rfl, rfl, rfl, rfl, rfl, rfl, rfl⟩, ⟨rfl, rfl, rfl, rfl, rfl, rfl, rfl, rfl, rfl, rfl, rfl, rfl⟩, rfl, rfl⟩, fun x hx => ⟨fun hlt => ?_, fun hge => ?_⟩⟩⟩
    · have hlt := of_decide_eq_true hlt
      have hq0 : 0 ≤ da / 4 ^ x := Int.ediv_nonneg d1 (Int.le_of_lt (Int.pow_pos (by decide)))
      have hq1 : da / 4 ^ x ≤ da := Int.ediv_le_self _ d1
      have hstep : IntKind.u32.wrap ((da / 4 ^ x).tdiv 4) = da / 4 ^ (x + 1) := by
        rw [Int.tdiv_eq_ediv_of_nonneg hq0, wrap_u32 (by omega) (by omega), Int.pow_succ, ← Int.ediv_ediv_of_nonneg (Int.le_of_lt (Int.pow_pos (by decide)))]
      have hw : IntKind.i64.wrap ((x : Int) + 1) = ((x + 1 : Nat) : Int) := by rw [wrap_i64 (by omega) (by omega)]; rfl
      exact ⟨x + 1, ⟨by omega, hr⟩, by omega, ⟨⟨rfl, rfl, rfl, rfl, rfl, rfl, rfl, rfl⟩, ⟨rfl, rfl, rfl, rfl, rfl, rfl, rfl, rfl, rfl, rfl, rfl, rfl⟩, rfl, rfl, hstep, hw, by simp⟩, ⟨rfl, rfl, rfl, rfl, rfl, rfl, rfl, rfl⟩, ⟨rfl, rfl, rfl, rfl, rfl, rfl, rfl, rfl, rfl, rfl, rfl, rfl⟩, rfl, rfl⟩
    · have hge := of_decide_eq_false hge
      have hxd : x = dm.toNat := by have := hx.1; omega
      subst hxd
      have hF0 : 0 ≤ da / 4 ^ dm.toNat := Int.ediv_nonneg d1 (Int.le_of_lt (Int.pow_pos (by decide)))
      rw [tmod_pos hF0, tmod_pos hF0, tmod_pos g2]
      unfold checkS
      simp only [hb]
      generalize da / 4 ^ dm.toNat = F at hF0
      have hF : F % 4 = 0 ∨ F % 4 = 1 ∨ F % 4 = 2 ∨ F % 4 = 3 := by omega
      by_cases ha : (afe && decide (ap % 2 = 0)) = true
      · simp [ha, bif_and]
      · have ha : (afe && decide (ap % 2 = 0)) = false := by simpa using ha
        rcases hF with h | h | h | h
        · have h2 : F % 2 = 0 := by omega
          simp [ha, bif_and, h2]
        · have h2 : ¬ F % 2 = 0 := by omega
          cases allowB ap xn afe priv kind <;> simp [ha, bif_and, h, h2, Ft.zero]
        · have h2 : F % 2 = 0 := by omega
          simp [ha, bif_and, h2]
        · have h2 : ¬ F % 2 = 0 := by omega
          simp [ha, bif_and, h, h2, Ft.zero]
theorem rrchkC_ch (sz va pa dm ap bi : Int) (ng xn : Bool) (on tre afe pd0 pd1 : Bool) (cn b0 b1 da pr nm asd : Int) (priv : Bool) (kind : Int) : ∃ r ∈ ([⟨none, some (0 ≤ va ∧ va < 4294967296 ∧ 0 ≤ pa ∧ pa < 18446744073709551616 ∧ 0 ≤ bi ∧ bi < 4294967296 ∧ 0 ≤ da ∧ da < 4294967296), .det (.val (.agg [.int .i64 (.tm (((checkS (Tr.mk sz va pa dm ap bi ng xn) on afe da priv kind)).kind)), .int .i64 (.tm (((checkS (Tr.mk sz va pa dm ap bi ng xn) on afe da priv kind)).level)), .int .i64 (.tm (((checkS (Tr.mk sz va pa dm ap bi ng xn) on afe da priv kind)).dom))])) ([])⟩] : List Res), holdsP r.g ∧ (holdsP r.need → r.r.shaped [] ∧ ∃ anns, fnVC Tryd.prog GTab (callOf Tryd.prog GTab [rrightC, rlevelC, rallowsC]) anns Tryd.f10 ((Tryd.f10.body).getD .skip) [.val (.agg [.int .i64 (.tm sz), .int .u32 (.tm va), .int .u64 (.tm pa), .int .i64 (.tm dm), .int .i64 (.tm ap), .int .u32 (.tm bi), .bool (.tm ng), .bool (.tm xn)]), .val (.agg [.bool (.tm on), .bool (.tm tre), .bool (.tm afe), .int .i64 (.tm cn), .bool (.tm pd0), .bool (.tm pd1), .int .u64 (.tm b0), .int .u64 (.tm b1), .int .u32 (.tm da), .int .u32 (.tm pr), .int .u32 (.tm nm), .int .i64 (.tm asd)]), .val (.one (.bool (.tm priv))), .val (.one (.int .i64 (.tm kind)))] [] r) := by
  exact ⟨_, List.mem_cons_self, trivial, fun hn => ⟨trivial, rrchkC_p0 sz va pa dm ap bi ng xn on tre afe pd0 pd1 cn b0 b1 da pr nm asd priv kind hn⟩⟩
theorem rrchkC_ok : rrchkC.ok Tryd.prog GTab := by
  refine con_ok (cs := [rrightC, rlevelC, rallowsC]) (body := (Tryd.f10.body).getD .skip) ?_ Tryd.func10 rfl ?_
  · intro c h
    simp only [List.mem_cons, List.not_mem_nil, or_false] at h
    rcases h with rfl | rfl | rfl
    · exact rrightC_ok
    · exact rlevelC_ok
    · exact rallowsC_ok
  · intro args h l hl
    unfold rrchkC at hl
    dsimp only at hl
    split at hl
    · cases hl
      exact rrchkC_ch _ _ _ _ _ _ _ _ _ _ _ _ _ _ _ _ _ _ _ _ _ _
    · cases hl
noncomputable def mayC : Con := ⟨7, fun args h => match args, h with
  | [.val (.one (.int .i64 (.tm kind))), .val (.one (.ptr 3 0)), .val (.one (.ptr 4 0))], [.mem false [.cells [.int .i64 (.tm sz), .int .u32 (.tm va), .int .u64 (.tm pa), .int .i64 (.tm dm), .int .i64 (.tm ap), .int .u32 (.tm bi), .bool (.tm ng), .bool (.tm xn)]], .mem false [.cells [.bool (.tm on), .bool (.tm tre), .bool (.tm afe), .int .i64 (.tm cn), .bool (.tm pd0), .bool (.tm pd1), .int .u64 (.tm b0), .int .u64 (.tm b1), .int .u32 (.tm da), .int .u32 (.tm pr), .int .u32 (.tm nm), .int .i64 (.tm asd)]]] => some [⟨none, some (0 ≤ va ∧ va < 4294967296 ∧ 0 ≤ pa ∧ pa < 18446744073709551616 ∧ 0 ≤ bi ∧ bi < 4294967296 ∧ 0 ≤ da ∧ da < 4294967296), .det (.val (.one (.bool (.tm (mayB (Tr.mk sz va pa dm ap bi ng xn) on afe da  kind))))) ([.mem false [.cells [.int .i64 (.tm sz), .int .u32 (.tm va), .int .u64 (.tm pa), .int .i64 (.tm dm), .int .i64 (.tm ap), .int .u32 (.tm bi), .bool (.tm ng), .bool (.tm xn)]], .mem false [.cells [.bool (.tm on), .bool (.tm tre), .bool (.tm afe), .int .i64 (.tm cn), .bool (.tm pd0), .bool (.tm pd1), .int .u64 (.tm b0), .int .u64 (.tm b1), .int .u32 (.tm da), .int .u32 (.tm pr), .int .u32 (.tm nm), .int .i64 (.tm asd)]]])⟩]
  | _, _ => none, true⟩
theorem mayC_p0 (sz va pa dm ap bi : Int) (ng xn : Bool) (on tre afe pd0 pd1 : Bool) (cn b0 b1 da pr nm asd : Int) (kind : Int) (hn : 0 ≤ va ∧ va < 4294967296 ∧ 0 ≤ pa ∧ pa < 18446744073709551616 ∧ 0 ≤ bi ∧ bi < 4294967296 ∧ 0 ≤ da ∧ da < 4294967296) : ∃ anns, fnVC Tryd.prog GTab (callOf Tryd.prog GTab [rchkC]) anns Tryd.f7 ((Tryd.f7.body).getD .skip) [.val (.one (.int .i64 (.tm kind))), .val (.one (.ptr 3 0)), .val (.one (.ptr 4 0))] [.mem false [.cells [.int .i64 (.tm sz), .int .u32 (.tm va), .int .u64 (.tm pa), .int .i64 (.tm dm), .int .i64 (.tm ap), .int .u32 (.tm bi), .bool (.tm ng), .bool (.tm xn)]], .mem false [.cells [.bool (.tm on), .bool (.tm tre), .bool (.tm afe), .int .i64 (.tm cn), .bool (.tm pd0), .bool (.tm pd1), .int .u64 (.tm b0), .int .u64 (.tm b1), .int .u32 (.tm da), .int .u32 (.tm pr), .int .u32 (.tm nm), .int .i64 (.tm asd)]]] ⟨none, some (0 ≤ va ∧ va < 4294967296 ∧ 0 ≤ pa ∧ pa < 18446744073709551616 ∧ 0 ≤ bi ∧ bi < 4294967296 ∧ 0 ≤ da ∧ da < 4294967296), .det (.val (.one (.bool (.tm (mayB (Tr.mk sz va pa dm ap bi ng xn) on afe da  kind))))) ([.mem false [.cells [.int .i64 (.tm sz), .int .u32 (.tm va), .int .u64 (.tm pa), .int .i64 (.tm dm), .int .i64 (.tm ap), .int .u32 (.tm bi), .bool (.tm ng), .bool (.tm xn)]], .mem false [.cells [.bool (.tm on), .bool (.tm tre), .bool (.tm afe), .int .i64 (.tm cn), .bool (.tm pd0), .bool (.tm pd1), .int .u64 (.tm b0), .int .u64 (.tm b1), .int .u32 (.tm da), .int .u32 (.tm pr), .int .u32 (.tm nm), .int .i64 (.tm asd)]]])⟩ := by
  refine ⟨⟨[], [], [], [], [], [], []⟩, ?_⟩
  rw [show fnVC Tryd.prog GTab (callOf Tryd.prog GTab [rchkC]) ⟨[], [], [], [], [], [], []⟩ Tryd.f7 ((Tryd.f7.body).getD .skip) [.val (.one (.int .i64 (.tm kind))), .val (.one (.ptr 3 0)), .val (.one (.ptr 4 0))] [.mem false [.cells [.int .i64 (.tm sz), .int .u32 (.tm va), .int .u64 (.tm pa), .int .i64 (.tm dm), .int .i64 (.tm ap), .int .u32 (.tm bi), .bool (.tm ng), .bool (.tm xn)]], .mem false [.cells [.bool (.tm on), .bool (.tm tre), .bool (.tm afe), .int .i64 (.tm cn), .bool (.tm pd0), .bool (.tm pd1), .int .u64 (.tm b0), .int .u64 (.tm b1), .int .u32 (.tm da), .int .u32 (.tm pr), .int .u32 (.tm nm), .int .i64 (.tm asd)]]] ⟨none, some (0 ≤ va ∧ va < 4294967296 ∧ 0 ≤ pa ∧ pa < 18446744073709551616 ∧ 0 ≤ bi ∧ bi < 4294967296 ∧ 0 ≤ da ∧ da < 4294967296), .det (.val (.one (.bool (.tm (mayB (Tr.mk sz va pa dm ap bi ng xn) on afe da  kind))))) ([.mem false [.cells [.int .i64 (.tm sz), .int .u32 (.tm va), .int .u64 (.tm pa), .int .i64 (.tm dm), .int .i64 (.tm ap), .int .u32 (.tm bi), .bool (.tm ng), .bool (.tm xn)]], .mem false [.cells [.bool (.tm on), .bool (.tm tre), .bool (.tm afe), .int .i64 (.tm cn), .bool (.tm pd0), .bool (.tm pd1), .int .u64 (.tm b0), .int .u64 (.tm b1), .int .u32 (.tm da), .int .u32 (.tm pr), .int .u32 (.tm nm), .int .i64 (.tm asd)]]])⟩ = (((0 : Int) ≤ va ∧ va < (4294967296 : Int) ∧ (0 : Int) ≤ pa ∧ pa < (18446744073709551616 : Int) ∧ (0 : Int) ≤ bi ∧ bi < (4294967296 : Int) ∧ (0 : Int) ≤ da ∧ da < (4294967296 : Int)) ∧ (decide ((checkS (Tr.mk sz va pa dm ap bi ng xn) on afe da false kind).kind = (0 : Int)) && (decide ((checkS (Tr.mk sz va pa dm ap bi ng xn) on afe da false kind).level = (0 : Int)) && decide ((checkS (Tr.mk sz va pa dm ap bi ng xn) on afe da false kind).dom = (0 : Int)))) = mayB (Tr.mk sz va pa dm ap bi ng xn) on afe da kind ∧ (sz = sz ∧ va = va ∧ pa = pa ∧ dm = dm ∧ ap = ap ∧ bi = bi ∧ ng = ng ∧ xn = xn) ∧ on = on ∧ tre = tre ∧ afe = afe ∧ cn = cn ∧ pd0 = pd0 ∧ pd1 = pd1 ∧ b0 = b0 ∧ b1 = b1 ∧ da = da ∧ pr = pr ∧ nm = nm ∧ asd = asd) from by kernel_rfl]
  exact ⟨hn, rfl, ⟨rfl, rfl, rfl, rfl, rfl, rfl, rfl, rfl⟩, ⟨rfl, rfl, rfl, rfl, rfl, rfl, rfl, rfl, rfl, rfl, rfl, rfl⟩⟩
theorem mayC_ch (sz va pa dm ap bi : Int) (ng xn : Bool) (on tre afe pd0 pd1 : Bool) (cn b0 b1 da pr nm asd : Int) (kind : Int) : ∃ r ∈ ([⟨none, some (0 ≤ va ∧ va < 4294967296 ∧ 0 ≤ pa ∧ pa < 18446744073709551616 ∧ 0 ≤ bi ∧ bi < 4294967296 ∧ 0 ≤ da ∧ da < 4294967296), .det (.val (.one (.bool (.tm (mayB (Tr.mk sz va pa dm ap bi ng xn) on afe da  kind))))) ([.mem false [.cells [.int .i64 (.tm sz), .int .u32 (.tm va), .int .u64 (.tm pa), .int .i64 (.tm dm), .int .i64 (.tm ap), .int .u32 (.tm bi), .bool (.tm ng), .bool (.tm xn)]], .mem false [.cells [.bool (.tm on), .bool (.tm tre), .bool (.tm afe), .int .i64 (.tm cn), .bool (.tm pd0), .bool (.tm pd1), .int .u64 (.tm b0), .int .u64 (.tm b1), .int .u32 (.tm da), .int .u32 (.tm pr), .int .u32 (.tm nm), .int .i64 (.tm asd)]]])⟩] : List Res), holdsP r.g ∧ (holdsP r.need → r.r.shaped [.mem false [.cells [.int .i64 (.tm sz), .int .u32 (.tm va), .int .u64 (.tm pa), .int .i64 (.tm dm), .int .i64 (.tm ap), .int .u32 (.tm bi), .bool (.tm ng), .bool (.tm xn)]], .mem false [.cells [.bool (.tm on), .bool (.tm tre), .bool (.tm afe), .int .i64 (.tm cn), .bool (.tm pd0), .bool (.tm pd1), .int .u64 (.tm b0), .int .u64 (.tm b1), .int .u32 (.tm da), .int .u32 (.tm pr), .int .u32 (.tm nm), .int .i64 (.tm asd)]]] ∧ ∃ anns, fnVC Tryd.prog GTab (callOf Tryd.prog GTab [rchkC]) anns Tryd.f7 ((Tryd.f7.body).getD .skip) [.val (.one (.int .i64 (.tm kind))), .val (.one (.ptr 3 0)), .val (.one (.ptr 4 0))] [.mem false [.cells [.int .i64 (.tm sz), .int .u32 (.tm va), .int .u64 (.tm pa), .int .i64 (.tm dm), .int .i64 (.tm ap), .int .u32 (.tm bi), .bool (.tm ng), .bool (.tm xn)]], .mem false [.cells [.bool (.tm on), .bool (.tm tre), .bool (.tm afe), .int .i64 (.tm cn), .bool (.tm pd0), .bool (.tm pd1), .int .u64 (.tm b0), .int .u64 (.tm b1), .int .u32 (.tm da), .int .u32 (.tm pr), .int .u32 (.tm nm), .int .i64 (.tm asd)]]] r) := by
  exact ⟨_, List.mem_cons_self, trivial, fun hn => ⟨trivial, mayC_p0 sz va pa dm ap bi ng xn on tre afe pd0 pd1 cn b0 b1 da pr nm asd kind hn⟩⟩
theorem mayC_ok : mayC.ok Tryd.prog GTab := by
  refine con_ok (cs := [rchkC]) (body := (Tryd.f7.body).getD .skip) ?_ Tryd.func7 rfl ?_
  · intro c h
    simp only [List.mem_cons, List.not_mem_nil, or_false] at h
    rcases h with rfl
    · exact rchkC_ok
  · intro args h l hl
    unfold mayC at hl
    dsimp only at hl
    split at hl
    · cases hl
      exact mayC_ch _ _ _ _ _ _ _ _ _ _ _ _ _ _ _ _ _ _ _ _ _
    · cases hl
noncomputable def arC : Con := ⟨4, fun args h => match args, h with
  | [.val (.agg [.int .i64 (.tm sz), .int .u32 (.tm va), .int .u64 (.tm pa), .int .i64 (.tm dm), .int .i64 (.tm ap), .int .u32 (.tm bi), .bool (.tm ng), .bool (.tm xn)]), .val (.agg [.bool (.tm on), .bool (.tm tre), .bool (.tm afe), .int .i64 (.tm cn), .bool (.tm pd0), .bool (.tm pd1), .int .u64 (.tm b0), .int .u64 (.tm b1), .int .u32 (.tm da), .int .u32 (.tm pr), .int .u32 (.tm nm), .int .i64 (.tm asd)])], [] => some [⟨none, some (0 ≤ va ∧ va < 4294967296 ∧ 0 ≤ pa ∧ pa < 18446744073709551616 ∧ 0 ≤ bi ∧ bi < 4294967296 ∧ 0 ≤ da ∧ da < 4294967296), .det (.val (.agg [.bool (.tm ((on && rightS (Tr.mk sz va pa dm ap bi ng xn)) && mayB (Tr.mk sz va pa dm ap bi ng xn) on afe da 2)), .bool (.tm ((on && rightS (Tr.mk sz va pa dm ap bi ng xn)) && mayB (Tr.mk sz va pa dm ap bi ng xn) on afe da 3)), .bool (.tm ((on && rightS (Tr.mk sz va pa dm ap bi ng xn)) && mayB (Tr.mk sz va pa dm ap bi ng xn) on afe da 1))])) ([])⟩]
  | _, _ => none, true⟩
theorem arC_p0 (sz va pa dm ap bi : Int) (ng xn : Bool) (on tre afe pd0 pd1 : Bool) (cn b0 b1 da pr nm asd : Int) (hn : 0 ≤ va ∧ va < 4294967296 ∧ 0 ≤ pa ∧ pa < 18446744073709551616 ∧ 0 ≤ bi ∧ bi < 4294967296 ∧ 0 ≤ da ∧ da < 4294967296) : ∃ anns, fnVC Tryd.prog GTab (callOf Tryd.prog GTab [rightC, mayC]) anns Tryd.f4 ((Tryd.f4.body).getD .skip) [.val (.agg [.int .i64 (.tm sz), .int .u32 (.tm va), .int .u64 (.tm pa), .int .i64 (.tm dm), .int .i64 (.tm ap), .int .u32 (.tm bi), .bool (.tm ng), .bool (.tm xn)]), .val (.agg [.bool (.tm on), .bool (.tm tre), .bool (.tm afe), .int .i64 (.tm cn), .bool (.tm pd0), .bool (.tm pd1), .int .u64 (.tm b0), .int .u64 (.tm b1), .int .u32 (.tm da), .int .u32 (.tm pr), .int .u32 (.tm nm), .int .i64 (.tm asd)])] [] ⟨none, some (0 ≤ va ∧ va < 4294967296 ∧ 0 ≤ pa ∧ pa < 18446744073709551616 ∧ 0 ≤ bi ∧ bi < 4294967296 ∧ 0 ≤ da ∧ da < 4294967296), .det (.val (.agg [.bool (.tm ((on && rightS (Tr.mk sz va pa dm ap bi ng xn)) && mayB (Tr.mk sz va pa dm ap bi ng xn) on afe da 2)), .bool (.tm ((on && rightS (Tr.mk sz va pa dm ap bi ng xn)) && mayB (Tr.mk sz va pa dm ap bi ng xn) on afe da 3)), .bool (.tm ((on && rightS (Tr.mk sz va pa dm ap bi ng xn)) && mayB (Tr.mk sz va pa dm ap bi ng xn) on afe da 1))])) ([])⟩ := by
  refine ⟨⟨[], [], [], [], [], [], []⟩, ?_⟩
  rw [show fnVC Tryd.prog GTab (callOf Tryd.prog GTab [rightC, mayC]) ⟨[], [], [], [], [], [], []⟩ Tryd.f4 ((Tryd.f4.body).getD .skip) [.val (.agg [.int .i64 (.tm sz), .int .u32 (.tm va), .int .u64 (.tm pa), .int .i64 (.tm dm), .int .i64 (.tm ap), .int .u32 (.tm bi), .bool (.tm ng), .bool (.tm xn)]), .val (.agg [.bool (.tm on), .bool (.tm tre), .bool (.tm afe), .int .i64 (.tm cn), .bool (.tm pd0), .bool (.tm pd1), .int .u64 (.tm b0), .int .u64 (.tm b1), .int .u32 (.tm da), .int .u32 (.tm pr), .int .u32 (.tm nm), .int .i64 (.tm asd)])] [] ⟨none, some (0 ≤ va ∧ va < 4294967296 ∧ 0 ≤ pa ∧ pa < 18446744073709551616 ∧ 0 ≤ bi ∧ bi < 4294967296 ∧ 0 ≤ da ∧ da < 4294967296), .det (.val (.agg [.bool (.tm ((on && rightS (Tr.mk sz va pa dm ap bi ng xn)) && mayB (Tr.mk sz va pa dm ap bi ng xn) on afe da 2)), .bool (.tm ((on && rightS (Tr.mk sz va pa dm ap bi ng xn)) && mayB (Tr.mk sz va pa dm ap bi ng xn) on afe da 3)), .bool (.tm ((on && rightS (Tr.mk sz va pa dm ap bi ng xn)) && mayB (Tr.mk sz va pa dm ap bi ng xn) on afe da 1))])) ([])⟩ = ((((!!on) = true → (!!on) = true) ∧ ((!!on) = true → (0 : Int) ≤ va ∧ va < (4294967296 : Int) ∧ (0 : Int) ≤ pa ∧ pa < (18446744073709551616 : Int) ∧ (0 : Int) ≤ bi ∧ bi < (4294967296 : Int))) ∧ ((!!on) = true → (!!on) = true) ∧ ((!on) = false → (!!on) = true) ∧ ((bif !on then true else !rightS (Tr.mk sz va pa dm ap bi ng xn)) = true → false = (on && rightS (Tr.mk sz va pa dm ap bi ng xn) && mayB (Tr.mk sz va pa dm ap bi ng xn) on afe da (2 : Int)) ∧ false = (on && rightS (Tr.mk sz va pa dm ap bi ng xn) && mayB (Tr.mk sz va pa dm ap bi ng xn) on afe da (3 : Int)) ∧ false = (on && rightS (Tr.mk sz va pa dm ap bi ng xn) && mayB (Tr.mk sz va pa dm ap bi ng xn) on afe da (1 : Int))) ∧ ((bif !on then true else !rightS (Tr.mk sz va pa dm ap bi ng xn)) = false → ((0 : Int) ≤ va ∧ va < (4294967296 : Int) ∧ (0 : Int) ≤ pa ∧ pa < (18446744073709551616 : Int) ∧ (0 : Int) ≤ bi ∧ bi < (4294967296 : Int) ∧ (0 : Int) ≤ da ∧ da < (4294967296 : Int)) ∧ ((0 : Int) ≤ va ∧ va < (4294967296 : Int) ∧ (0 : Int) ≤ pa ∧ pa < (18446744073709551616 : Int) ∧ (0 : Int) ≤ bi ∧ bi < (4294967296 : Int) ∧ (0 : Int) ≤ da ∧ da < (4294967296 : Int)) ∧ ((0 : Int) ≤ va ∧ va < (4294967296 : Int) ∧ (0 : Int) ≤ pa ∧ pa < (18446744073709551616 : Int) ∧ (0 : Int) ≤ bi ∧ bi < (4294967296 : Int) ∧ (0 : Int) ≤ da ∧ da < (4294967296 : Int)) ∧ mayB (Tr.mk sz va pa dm ap bi ng xn) on afe da (2 : Int) = (on && rightS (Tr.mk sz va pa dm ap bi ng xn) && mayB (Tr.mk sz va pa dm ap bi ng xn) on afe da (2 : Int)) ∧ mayB (Tr.mk sz va pa dm ap bi ng xn) on afe da (3 : Int) = (on && rightS (Tr.mk sz va pa dm ap bi ng xn) && mayB (Tr.mk sz va pa dm ap bi ng xn) on afe da (3 : Int)) ∧ mayB (Tr.mk sz va pa dm ap bi ng xn) on afe da (1 : Int) = (on && rightS (Tr.mk sz va pa dm ap bi ng xn) && mayB (Tr.mk sz va pa dm ap bi ng xn) on afe da (1 : Int)))) from by kernel_rfl]
  obtain ⟨t1, t2, t3, t4, t5, t6, d1, d2⟩ := hn
  have hcond : (bif !on then true else !rightS (Tr.mk sz va pa dm ap bi ng xn)) = !(on && rightS (Tr.mk sz va pa dm ap bi ng xn)) := by cases on <;> simp
  rw [hcond]
  cases hb : (on && rightS (Tr.mk sz va pa dm ap bi ng xn)) with
  | false => exact ⟨⟨id, fun _ => ⟨t1, t2, t3, t4, t5, t6⟩⟩, id, fun h => by rw [h]; rfl, fun _ => ⟨rfl, rfl, rfl⟩, fun h => by cases h⟩
  | true => exact ⟨⟨id, fun _ => ⟨t1, t2, t3, t4, t5, t6⟩⟩, id, fun h => by rw [h]; rfl, fun h => (by cases h), fun _ => ⟨⟨t1, t2, t3, t4, t5, t6, d1, d2⟩, ⟨t1, t2, t3, t4, t5, t6, d1, d2⟩, ⟨t1, t2, t3, t4, t5, t6, d1, d2⟩, rfl, rfl, rfl⟩⟩
theorem arC_ch (sz va pa dm ap bi : Int) (ng xn : Bool) (on tre afe pd0 pd1 : Bool) (cn b0 b1 da pr nm asd : Int) : ∃ r ∈ ([⟨none, some (0 ≤ va ∧ va < 4294967296 ∧ 0 ≤ pa ∧ pa < 18446744073709551616 ∧ 0 ≤ bi ∧ bi < 4294967296 ∧ 0 ≤ da ∧ da < 4294967296), .det (.val (.agg [.bool (.tm ((on && rightS (Tr.mk sz va pa dm ap bi ng xn)) && mayB (Tr.mk sz va pa dm ap bi ng xn) on afe da 2)), .bool (.tm ((on && rightS (Tr.mk sz va pa dm ap bi ng xn)) && mayB (Tr.mk sz va pa dm ap bi ng xn) on afe da 3)), .bool (.tm ((on && rightS (Tr.mk sz va pa dm ap bi ng xn)) && mayB (Tr.mk sz va pa dm ap bi ng xn) on afe da 1))])) ([])⟩] : List Res), holdsP r.g ∧ (holdsP r.need → r.r.shaped [] ∧ ∃ anns, fnVC Tryd.prog GTab (callOf Tryd.prog GTab [rightC, mayC]) anns Tryd.f4 ((Tryd.f4.body).getD .skip) [.val (.agg [.int .i64 (.tm sz), .int .u32 (.tm va), .int .u64 (.tm pa), .int .i64 (.tm dm), .int .i64 (.tm ap), .int .u32 (.tm bi), .bool (.tm ng), .bool (.tm xn)]), .val (.agg [.bool (.tm on), .bool (.tm tre), .bool (.tm afe), .int .i64 (.tm cn), .bool (.tm pd0), .bool (.tm pd1), .int .u64 (.tm b0), .int .u64 (.tm b1), .int .u32 (.tm da), .int .u32 (.tm pr), .int .u32 (.tm nm), .int .i64 (.tm asd)])] [] r) := by
  exact ⟨_, List.mem_cons_self, trivial, fun hn => ⟨trivial, arC_p0 sz va pa dm ap bi ng xn on tre afe pd0 pd1 cn b0 b1 da pr nm asd hn⟩⟩
theorem arC_ok : arC.ok Tryd.prog GTab := by
  refine con_ok (cs := [rightC, mayC]) (body := (Tryd.f4.body).getD .skip) ?_ Tryd.func4 rfl ?_
  · intro c h
    simp only [List.mem_cons, List.not_mem_nil, or_false] at h
    rcases h with rfl | rfl
    · exact rightC_ok
    · exact mayC_ok
  · intro args h l hl
    unfold arC at hl
    dsimp only at hl
    split at hl
    · cases hl
      exact arC_ch _ _ _ _ _ _ _ _ _ _ _ _ _ _ _ _ _ _ _ _
    · cases hl
noncomputable def rarC : Con := ⟨5, fun args h => match args, h with
  | [.val (.agg [.int .i64 (.tm sz), .int .u32 (.tm va), .int .u64 (.tm pa), .int .i64 (.tm dm), .int .i64 (.tm ap), .int .u32 (.tm bi), .bool (.tm ng), .bool (.tm xn)]), .val (.agg [.bool (.tm on), .bool (.tm tre), .bool (.tm afe), .int .i64 (.tm cn), .bool (.tm pd0), .bool (.tm pd1), .int .u64 (.tm b0), .int .u64 (.tm b1), .int .u32 (.tm da), .int .u32 (.tm pr), .int .u32 (.tm nm), .int .i64 (.tm asd)])], [] => some [⟨none, some (0 ≤ va ∧ va < 4294967296 ∧ 0 ≤ pa ∧ pa < 18446744073709551616 ∧ 0 ≤ bi ∧ bi < 4294967296 ∧ 0 ≤ da ∧ da < 4294967296), .det (.val (.agg [.bool (.tm ((on && rightS (Tr.mk sz va pa dm ap bi ng xn)) && mayB (Tr.mk sz va pa dm ap bi ng xn) on afe da 2)), .bool (.tm ((on && rightS (Tr.mk sz va pa dm ap bi ng xn)) && mayB (Tr.mk sz va pa dm ap bi ng xn) on afe da 3)), .bool (.tm ((on && rightS (Tr.mk sz va pa dm ap bi ng xn)) && mayB (Tr.mk sz va pa dm ap bi ng xn) on afe da 1))])) ([])⟩]
  | _, _ => none, true⟩
theorem rarC_p0 (sz va pa dm ap bi : Int) (ng xn : Bool) (on tre afe pd0 pd1 : Bool) (cn b0 b1 da pr nm asd : Int) (hn : 0 ≤ va ∧ va < 4294967296 ∧ 0 ≤ pa ∧ pa < 18446744073709551616 ∧ 0 ≤ bi ∧ bi < 4294967296 ∧ 0 ≤ da ∧ da < 4294967296) : ∃ anns, fnVC Tryd.prog GTab (callOf Tryd.prog GTab [rrightC, rrchkC]) anns Tryd.f5 ((Tryd.f5.body).getD .skip) [.val (.agg [.int .i64 (.tm sz), .int .u32 (.tm va), .int .u64 (.tm pa), .int .i64 (.tm dm), .int .i64 (.tm ap), .int .u32 (.tm bi), .bool (.tm ng), .bool (.tm xn)]), .val (.agg [.bool (.tm on), .bool (.tm tre), .bool (.tm afe), .int .i64 (.tm cn), .bool (.tm pd0), .bool (.tm pd1), .int .u64 (.tm b0), .int .u64 (.tm b1), .int .u32 (.tm da), .int .u32 (.tm pr), .int .u32 (.tm nm), .int .i64 (.tm asd)])] [] ⟨none, some (0 ≤ va ∧ va < 4294967296 ∧ 0 ≤ pa ∧ pa < 18446744073709551616 ∧ 0 ≤ bi ∧ bi < 4294967296 ∧ 0 ≤ da ∧ da < 4294967296), .det (.val (.agg [.bool (.tm ((on && rightS (Tr.mk sz va pa dm ap bi ng xn)) && mayB (Tr.mk sz va pa dm ap bi ng xn) on afe da 2)), .bool (.tm ((on && rightS (Tr.mk sz va pa dm ap bi ng xn)) && mayB (Tr.mk sz va pa dm ap bi ng xn) on afe da 3)), .bool (.tm ((on && rightS (Tr.mk sz va pa dm ap bi ng xn)) && mayB (Tr.mk sz va pa dm ap bi ng xn) on afe da 1))])) ([])⟩ := by
  refine ⟨⟨[], [], [], [], [], [], []⟩, ?_⟩
  rw [show fnVC Tryd.prog GTab (callOf Tryd.prog GTab [rrightC, rrchkC]) ⟨[], [], [], [], [], [], []⟩ Tryd.f5 ((Tryd.f5.body).getD .skip) [.val (.agg [.int .i64 (.tm sz), .int .u32 (.tm va), .int .u64 (.tm pa), .int .i64 (.tm dm), .int .i64 (.tm ap), .int .u32 (.tm bi), .bool (.tm ng), .bool (.tm xn)]), .val (.agg [.bool (.tm on), .bool (.tm tre), .bool (.tm afe), .int .i64 (.tm cn), .bool (.tm pd0), .bool (.tm pd1), .int .u64 (.tm b0), .int .u64 (.tm b1), .int .u32 (.tm da), .int .u32 (.tm pr), .int .u32 (.tm nm), .int .i64 (.tm asd)])] [] ⟨none, some (0 ≤ va ∧ va < 4294967296 ∧ 0 ≤ pa ∧ pa < 18446744073709551616 ∧ 0 ≤ bi ∧ bi < 4294967296 ∧ 0 ≤ da ∧ da < 4294967296), .det (.val (.agg [.bool (.tm ((on && rightS (Tr.mk sz va pa dm ap bi ng xn)) && mayB (Tr.mk sz va pa dm ap bi ng xn) on afe da 2)), .bool (.tm ((on && rightS (Tr.mk sz va pa dm ap bi ng xn)) && mayB (Tr.mk sz va pa dm ap bi ng xn) on afe da 3)), .bool (.tm ((on && rightS (Tr.mk sz va pa dm ap bi ng xn)) && mayB (Tr.mk sz va pa dm ap bi ng xn) on afe da 1))])) ([])⟩ = ((((!!on) = true → (!!on) = true) ∧ ((!!on) = true → (0 : Int) ≤ va ∧ va < (4294967296 : Int) ∧ (0 : Int) ≤ pa ∧ pa < (18446744073709551616 : Int) ∧ (0 : Int) ≤ bi ∧ bi < (4294967296 : Int))) ∧ ((!!on) = true → (!!on) = true) ∧ ((!on) = false → (!!on) = true) ∧ ((bif !on then true else !rightS (Tr.mk sz va pa dm ap bi ng xn)) = true → false = (on && rightS (Tr.mk sz va pa dm ap bi ng xn) && mayB (Tr.mk sz va pa dm ap bi ng xn) on afe da (2 : Int)) ∧ false = (on && rightS (Tr.mk sz va pa dm ap bi ng xn) && mayB (Tr.mk sz va pa dm ap bi ng xn) on afe da (3 : Int)) ∧ false = (on && rightS (Tr.mk sz va pa dm ap bi ng xn) && mayB (Tr.mk sz va pa dm ap bi ng xn) on afe da (1 : Int))) ∧ ((bif !on then true else !rightS (Tr.mk sz va pa dm ap bi ng xn)) = false → ((0 : Int) ≤ va ∧ va < (4294967296 : Int) ∧ (0 : Int) ≤ pa ∧ pa < (18446744073709551616 : Int) ∧ (0 : Int) ≤ bi ∧ bi < (4294967296 : Int) ∧ (0 : Int) ≤ da ∧ da < (4294967296 : Int)) ∧ ((0 : Int) ≤ va ∧ va < (4294967296 : Int) ∧ (0 : Int) ≤ pa ∧ pa < (18446744073709551616 : Int) ∧ (0 : Int) ≤ bi ∧ bi < (4294967296 : Int) ∧ (0 : Int) ≤ da ∧ da < (4294967296 : Int)) ∧ ((0 : Int) ≤ va ∧ va < (4294967296 : Int) ∧ (0 : Int) ≤ pa ∧ pa < (18446744073709551616 : Int) ∧ (0 : Int) ≤ bi ∧ bi < (4294967296 : Int) ∧ (0 : Int) ≤ da ∧ da < (4294967296 : Int)) ∧ (decide ((checkS (Tr.mk sz va pa dm ap bi ng xn) on afe da false (2 : Int)).kind = (0 : Int)) && (decide ((checkS (Tr.mk sz va pa dm ap bi ng xn) on afe da false (2 : Int)).level = (0 : Int)) && decide ((checkS (Tr.mk sz va pa dm ap bi ng xn) on afe da false (2 : Int)).dom = (0 : Int)))) = (on && rightS (Tr.mk sz va pa dm ap bi ng xn) && mayB (Tr.mk sz va pa dm ap bi ng xn) on afe da (2 : Int)) ∧ (decide ((checkS (Tr.mk sz va pa dm ap bi ng xn) on afe da false (3 : Int)).kind = (0 : Int)) && (decide ((checkS (Tr.mk sz va pa dm ap bi ng xn) on afe da false (3 : Int)).level = (0 : Int)) && decide ((checkS (Tr.mk sz va pa dm ap bi ng xn) on afe da false (3 : Int)).dom = (0 : Int)))) = (on && rightS (Tr.mk sz va pa dm ap bi ng xn) && mayB (Tr.mk sz va pa dm ap bi ng xn) on afe da (3 : Int)) ∧ (decide ((checkS (Tr.mk sz va pa dm ap bi ng xn) on afe da false (1 : Int)).kind = (0 : Int)) && (decide ((checkS (Tr.mk sz va pa dm ap bi ng xn) on afe da false (1 : Int)).level = (0 : Int)) && decide ((checkS (Tr.mk sz va pa dm ap bi ng xn) on afe da false (1 : Int)).dom = (0 : Int)))) = (on && rightS (Tr.mk sz va pa dm ap bi ng xn) && mayB (Tr.mk sz va pa dm ap bi ng xn) on afe da (1 : Int)))) from by kernel_rfl]
  obtain ⟨t1, t2, t3, t4, t5, t6, d1, d2⟩ := hn
  have hcond : (bif !on then true else !rightS (Tr.mk sz va pa dm ap bi ng xn)) = !(on && rightS (Tr.mk sz va pa dm ap bi ng xn)) := by cases on <;> simp
  rw [hcond]
  cases hb : (on && rightS (Tr.mk sz va pa dm ap bi ng xn)) with
  | false => exact ⟨⟨id, fun _ => ⟨t1, t2, t3, t4, t5, t6⟩⟩, id, fun h => by rw [h]; rfl, fun _ => ⟨rfl, rfl, rfl⟩, fun h => by cases h⟩
  | true => exact ⟨⟨id, fun _ => ⟨t1, t2, t3, t4, t5, t6⟩⟩, id, fun h => by rw [h]; rfl, fun h => (by cases h), fun _ => ⟨⟨t1, t2, t3, t4, t5, t6, d1, d2⟩, ⟨t1, t2, t3, t4, t5, t6, d1, d2⟩, ⟨t1, t2, t3, t4, t5, t6, d1, d2⟩, rfl, rfl, rfl⟩⟩
theorem rarC_ch (sz va pa dm ap bi : Int) (ng xn : Bool) (on tre afe pd0 pd1 : Bool) (cn b0 b1 da pr nm asd : Int) : ∃ r ∈ ([⟨none, some (0 ≤ va ∧ va < 4294967296 ∧ 0 ≤ pa ∧ pa < 18446744073709551616 ∧ 0 ≤ bi ∧ bi < 4294967296 ∧ 0 ≤ da ∧ da < 4294967296), .det (.val (.agg [.bool (.tm ((on && rightS (Tr.mk sz va pa dm ap bi ng xn)) && mayB (Tr.mk sz va pa dm ap bi ng xn) on afe da 2)), .bool (.tm ((on && rightS (Tr.mk sz va pa dm ap bi ng xn)) && mayB (Tr.mk sz va pa dm ap bi ng xn) on afe da 3)), .bool (.tm ((on && rightS (Tr.mk sz va pa dm ap bi ng xn)) && mayB (Tr.mk sz va pa dm ap bi ng xn) on afe da 1))])) ([])⟩] : List Res), holdsP r.g ∧ (holdsP r.need → r.r.shaped [] ∧ ∃ anns, fnVC Tryd.prog GTab (callOf Tryd.prog GTab [rrightC, rrchkC]) anns Tryd.f5 ((Tryd.f5.body).getD .skip) [.val (.agg [.int .i64 (.tm sz), .int .u32 (.tm va), .int .u64 (.tm pa), .int .i64 (.tm dm), .int .i64 (.tm ap), .int .u32 (.tm bi), .bool (.tm ng), .bool (.tm xn)]), .val (.agg [.bool (.tm on), .bool (.tm tre), .bool (.tm afe), .int .i64 (.tm cn), .bool (.tm pd0), .bool (.tm pd1), .int .u64 (.tm b0), .int .u64 (.tm b1), .int .u32 (.tm da), .int .u32 (.tm pr), .int .u32 (.tm nm), .int .i64 (.tm asd)])] [] r) := by
  exact ⟨_, List.mem_cons_self, trivial, fun hn => ⟨trivial, rarC_p0 sz va pa dm ap bi ng xn on tre afe pd0 pd1 cn b0 b1 da pr nm asd hn⟩⟩
theorem rarC_ok : rarC.ok Tryd.prog GTab := by
  refine con_ok (cs := [rrightC, rrchkC]) (body := (Tryd.f5.body).getD .skip) ?_ Tryd.func5 rfl ?_
  · intro c h
    simp only [List.mem_cons, List.not_mem_nil, or_false] at h
    rcases h with rfl | rfl
    · exact rrightC_ok
    · exact rrchkC_ok
  · intro args h l hl
    unfold rarC at hl
    dsimp only at hl
    split at hl
    · cases hl
      exact rarC_ch _ _ _ _ _ _ _ _ _ _ _ _ _ _ _ _ _ _ _ _
    · cases hl
end Go.Proofs.YtceehnhfahbjiaaDoor.con
