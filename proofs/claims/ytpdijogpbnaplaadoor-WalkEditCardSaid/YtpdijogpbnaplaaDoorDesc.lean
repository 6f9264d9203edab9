/- Descriptors, in plain Lean and as contracts: what a word says, what can be said, the translation of an entry, of the program and of the document. -/
import Derived.Test.YtpdijogpbnaplaaDoorPrg
import Derived.KernelRfl
namespace Go.Proofs.YtpdijogpbnaplaaDoor.con
open Go Go.Proofs.YtpdijogpbnaplaaDoorHz
set_option maxRecDepth 100000
set_option maxHeartbeats 4000000
/-- the bits of numbers without a sign -/
theorem unsigned_wrap {k : IntKind} (hk : k.signed = false) {x : Int} (h0 : 0 ≤ x) (h1 : x < 2 ^ k.bits) : k.wrap x = x := by
  cases k <;> first | (exact absurd hk (by decide)) | (simp only [IntKind.wrap, IntKind.bits, IntKind.signed] at *; simp at *; omega)
theorem bv_nat {n : Nat} {x : Int} (h0 : 0 ≤ x) (h1 : x < 2 ^ n) : (BitVec.ofInt n x).toNat = x.toNat := by
  have e : ((2 : Int) ^ n) = ((2 ^ n : Nat) : Int) := by rw [Int.natCast_pow]; rfl
  rw [e] at h1
  rw [BitVec.toNat_ofInt, Int.emod_eq_of_lt h0 h1]
theorem bits_and {k : IntKind} (hk : k.signed = false) {x y : Int} (h0 : 0 ≤ x) (h1 : x < 2 ^ k.bits) (h2 : 0 ≤ y) (h3 : y < 2 ^ k.bits) : bits .and k x y = ((x.toNat &&& y.toNat : Nat) : Int) := by
  show k.wrap ((((BitVec.ofInt k.bits x) &&& (BitVec.ofInt k.bits y)).toNat : Nat) : Int) = _
  rw [BitVec.toNat_and, bv_nat h0 h1, bv_nat h2 h3]
  refine unsigned_wrap hk (Int.natCast_nonneg _) ?_
  have : x.toNat &&& y.toNat ≤ x.toNat := Nat.and_le_left
  omega
theorem bits_or {k : IntKind} (hk : k.signed = false) {x y : Int} (h0 : 0 ≤ x) (h1 : x < 2 ^ k.bits) (h2 : 0 ≤ y) (h3 : y < 2 ^ k.bits) : bits .or k x y = ((x.toNat ||| y.toNat : Nat) : Int) := by
  show k.wrap ((((BitVec.ofInt k.bits x) ||| (BitVec.ofInt k.bits y)).toNat : Nat) : Int) = _
  rw [BitVec.toNat_or, bv_nat h0 h1, bv_nat h2 h3]
  refine unsigned_wrap hk (Int.natCast_nonneg _) ?_
  have e : ((2 : Int) ^ k.bits) = ((2 ^ k.bits : Nat) : Int) := by rw [Int.natCast_pow]; rfl
  rw [e] at h1 h3 ⊢
  exact Int.ofNat_lt.2 (Nat.or_lt_two_pow (by omega) (by omega))
/-- the lowest bits -/
theorem and_low {k : IntKind} (hk : k.signed = false) {x : Int} (h0 : 0 ≤ x) (h1 : x < 2 ^ k.bits) (i : Nat) (hi : i < k.bits) : bits .and k x (2 ^ i - 1) = x % 2 ^ i := by
  have hm : ((2 : Int) ^ i - 1) = ((2 ^ i - 1 : Nat) : Int) := by
    rw [Int.natCast_sub (Nat.two_pow_pos i)]; simp
  have hp : (2 : Int) ^ i < 2 ^ k.bits := Int.pow_lt_pow_of_lt (by decide) hi
  have h3 : ((2 ^ i - 1 : Nat) : Int) < 2 ^ k.bits := by rw [← hm]; omega
  rw [hm, bits_and hk h0 h1 (Int.natCast_nonneg _) h3, Int.toNat_natCast, Nat.and_two_pow_sub_one_eq_mod]
  rw [Int.natCast_emod, Int.toNat_of_nonneg h0, Int.natCast_pow]; rfl
/-- without the lowest bits -/
theorem andNot_low {k : IntKind} (hk : k.signed = false) {x : Int} (h0 : 0 ≤ x) (h1 : x < 2 ^ k.bits) (i : Nat) (hi : i < k.bits) : bits .andNot k x (2 ^ i - 1) = x - x % 2 ^ i := by
  have hm : ((2 : Int) ^ i - 1) = ((2 ^ i - 1 : Nat) : Int) := by
    rw [Int.natCast_sub (Nat.two_pow_pos i)]; simp
  have hp : (2 : Int) ^ i < 2 ^ k.bits := Int.pow_lt_pow_of_lt (by decide) hi
  have h3 : ((2 ^ i - 1 : Nat) : Int) < 2 ^ k.bits := by rw [← hm]; omega
  have hpn : 2 ^ i < 2 ^ k.bits := Nat.pow_lt_pow_right (by decide) hi
  have hpp : 0 < 2 ^ i := Nat.two_pow_pos i
  rw [hm]
  show k.wrap ((((BitVec.ofInt k.bits x) &&& ~~~(BitVec.ofInt k.bits ((2 ^ i - 1 : Nat) : Int))).toNat : Nat) : Int) = _
  rw [BitVec.toNat_and, BitVec.toNat_not, bv_nat h0 h1, bv_nat (Int.natCast_nonneg _) h3, Int.toNat_natCast]
  have key : x.toNat &&& (2 ^ k.bits - 1 - (2 ^ i - 1)) = x.toNat - x.toNat % 2 ^ i := by
    have hx : x.toNat < 2 ^ k.bits := by
      have e : ((2 : Int) ^ k.bits) = ((2 ^ k.bits : Nat) : Int) := by rw [Int.natCast_pow]; rfl
      rw [e] at h1; omega
    have e1 : x.toNat - x.toNat % 2 ^ i = 2 ^ i * (x.toNat / 2 ^ i) := by
      have := Nat.div_add_mod x.toNat (2 ^ i)
      omega
    have e2 : 2 ^ k.bits - 1 - (2 ^ i - 1) = 2 ^ k.bits - ((2 ^ i - 1) + 1) := by omega
    rw [e1, e2]
    apply Nat.eq_of_testBit_eq
    intro j
    rw [Nat.testBit_and, Nat.testBit_two_pow_sub_succ (by omega), Nat.testBit_two_pow_sub_one, Nat.testBit_two_pow_mul]
    by_cases hj : i ≤ j
    · have : Nat.testBit (x.toNat / 2 ^ i) (j - i) = x.toNat.testBit j := by
        rw [Nat.testBit_div_two_pow]; congr 1; omega
      rw [this]
      by_cases hb : j < k.bits
      · simp [hj, hb, Nat.not_lt.2 hj]
      · have : x.toNat.testBit j = false := Nat.testBit_lt_two_pow (Nat.lt_of_lt_of_le hx (Nat.pow_le_pow_right (by decide) (by omega)))
        simp [this]
    · simp [hj, Nat.lt_of_not_le hj]
  rw [key]
  have hle : x.toNat % 2 ^ i ≤ x.toNat := Nat.mod_le _ _
  have e3 : ((x.toNat - x.toNat % 2 ^ i : Nat) : Int) = x - x % 2 ^ i := by
    rw [Int.natCast_sub hle, Int.natCast_emod, Int.toNat_of_nonneg h0, Int.natCast_pow]; rfl
  rw [e3]
  have hb1 : 0 ≤ x % 2 ^ i := Int.emod_nonneg _ (Int.ne_of_gt (Int.pow_pos (by decide)))
  have hb2 : x % 2 ^ i ≤ x := by
    have := Int.ofNat_le.2 hle
    rw [Int.natCast_emod, Int.toNat_of_nonneg h0, Int.natCast_pow] at this
    exact this
  exact unsigned_wrap hk (by omega) (by omega)
/-- numbers that share no bits -/
theorem or_add {k : IntKind} (hk : k.signed = false) {a b : Int} (i : Nat) (h0 : 0 ≤ a) (h1 : a * 2 ^ i < 2 ^ k.bits) (h2 : 0 ≤ b) (h3 : b < 2 ^ i) (hi : i ≤ k.bits) : bits .or k (a * 2 ^ i) b = a * 2 ^ i + b := by
  have hpi : (0 : Int) < 2 ^ i := Int.pow_pos (by decide)
  have h4 : 0 ≤ a * 2 ^ i := Int.mul_nonneg h0 (Int.le_of_lt hpi)
  have h5 : b < 2 ^ k.bits := by
    refine Int.lt_of_lt_of_le h3 ?_
    have := Int.ofNat_le.2 (Nat.pow_le_pow_right (n := 2) (by decide) hi)
    rwa [Int.natCast_pow, Int.natCast_pow] at this
  rw [bits_or hk h4 h1 h2 h5]
  obtain ⟨n, rfl⟩ := Int.eq_ofNat_of_zero_le h0
  obtain ⟨m, rfl⟩ := Int.eq_ofNat_of_zero_le h2
  have e : ((n : Int) * 2 ^ i).toNat = 2 ^ i * n := by
    rw [show (n : Int) * 2 ^ i = ((2 ^ i * n : Nat) : Int) by rw [Int.natCast_mul, Int.natCast_pow, Int.mul_comm]; rfl, Int.toNat_natCast]
  have hm : m < 2 ^ i := by
    have e : ((2 : Int) ^ i) = ((2 ^ i : Nat) : Int) := by rw [Int.natCast_pow]; rfl
    rw [e] at h3; omega
  rw [e, Int.toNat_natCast, ← Nat.two_pow_add_eq_or_of_lt hm]
  rw [Int.natCast_add, Int.natCast_mul, Int.natCast_pow, Int.mul_comm]; rfl
theorem or_add' {k : IntKind} (hk : k.signed = false) {a b : Int} (i : Nat) (h0 : 0 ≤ a) (h1 : a * 2 ^ i < 2 ^ k.bits) (h2 : 0 ≤ b) (h3 : b < 2 ^ i) (hi : i ≤ k.bits) : bits .or k b (a * 2 ^ i) = a * 2 ^ i + b := by
  have hpi : (0 : Int) < 2 ^ i := Int.pow_pos (by decide)
  have h4 : 0 ≤ a * 2 ^ i := Int.mul_nonneg h0 (Int.le_of_lt hpi)
  have h5 : b < 2 ^ k.bits := by
    refine Int.lt_of_lt_of_le h3 ?_
    have := Int.ofNat_le.2 (Nat.pow_le_pow_right (n := 2) (by decide) hi)
    rwa [Int.natCast_pow, Int.natCast_pow] at this
  rw [← or_add hk i h0 h1 h2 h3 hi, bits_or hk h4 h1 h2 h5, bits_or hk h2 h5 h4 h1, Nat.or_comm]
/-- a number by its bits, from a place on -/
def numS (g : Nat → Int) : Nat → Nat → Int
  | _, 0 => 0
  | j, c + 1 => g j + 2 * numS g (j + 1) c
theorem num_bits (w : Int) : ∀ c j : Nat, numS (fun i => w / 2 ^ i % 2) j c = w / 2 ^ j % 2 ^ c
  | 0, j => by simp [numS]
  | c + 1, j => by
    simp only [numS]
    rw [num_bits w c (j + 1)]
    have e : w / 2 ^ (j + 1) = w / 2 ^ j / 2 := by
      rw [Int.pow_succ, Int.ediv_ediv_of_nonneg (Int.le_of_lt (Int.pow_pos (by decide)))]
    rw [e]
    generalize w / 2 ^ j = x
    rw [Int.pow_succ]
    have hp : (0 : Int) < 2 ^ c := Int.pow_pos (by decide)
    generalize (2 : Int) ^ c = p at hp
    have e1 := Int.mul_ediv_add_emod (x / 2) p
    have h1 := Int.emod_nonneg (x / 2) (Int.ne_of_gt hp)
    have h2 := Int.emod_lt_of_pos (x / 2) hp
    have e2 : x = x % 2 + 2 * (x / 2 % p) + p * 2 * (x / 2 / p) := by
      have : p * 2 * (x / 2 / p) = 2 * (p * (x / 2 / p)) := by rw [Int.mul_comm p 2, Int.mul_assoc]
      omega
    have e3 : x % (p * 2) = (x % 2 + 2 * (x / 2 % p) + p * 2 * (x / 2 / p)) % (p * 2) := by rw [← e2]
    rw [e3, Int.add_mul_emod_self_left]
    exact (Int.emod_eq_of_lt (by omega) (by omega)).symm
theorem nat_clear {n s x : Nat} (hx : x < 2 ^ n) (hs : s + 8 ≤ n) : x &&& (2 ^ n - (255 * 2 ^ s + 1)) = 2 ^ (s + 8) * (x / 2 ^ (s + 8)) + x % 2 ^ s := by
  have hlt : x % 2 ^ s < 2 ^ (s + 8) := Nat.lt_of_lt_of_le (Nat.mod_lt _ (Nat.two_pow_pos s)) (Nat.pow_le_pow_right (by decide) (by omega))
  have hm : 255 * 2 ^ s < 2 ^ n := by
    have h1 : 2 ^ (s + 8) ≤ 2 ^ n := Nat.pow_le_pow_right (by decide) hs
    have h2 : 2 ^ (s + 8) = 2 ^ s * 256 := by rw [Nat.pow_add]
    have h3 := Nat.two_pow_pos s
    omega
  apply Nat.eq_of_testBit_eq
  intro j
  rw [Nat.testBit_and, Nat.testBit_two_pow_sub_succ hm, Nat.testBit_two_pow_mul_add _ hlt, Nat.mul_comm 255, Nat.testBit_two_pow_mul, show (255 : Nat) = 2 ^ 8 - 1 by decide, Nat.testBit_two_pow_sub_one, Nat.testBit_mod_two_pow, Nat.testBit_div_two_pow]
  by_cases h1 : j < s
  · have : j < s + 8 := by omega
    have h3 : j < n := by omega
    have h4 : ¬ s ≤ j := by omega
    simp [h1, this, h3, h4]
  · by_cases h2 : j < s + 8
    · have h3 : j - s < 8 := by omega
      have h4 : s ≤ j := by omega
      simp [h1, h2, h3, h4]
    · have h3 : ¬ j - s < 8 := by omega
      have e : j - (s + 8) + (s + 8) = j := by omega
      by_cases h5 : j < n
      · simp [h2, h3, h5, e]
      · have : x.testBit j = false := Nat.testBit_lt_two_pow (Nat.lt_of_lt_of_le hx (Nat.pow_le_pow_right (by decide) (by omega)))
        simp [h2, this, e]
theorem nat_byte {s x v : Nat} (hv : v < 256) : (2 ^ (s + 8) * (x / 2 ^ (s + 8)) + x % 2 ^ s) ||| (v * 2 ^ s) = 2 ^ (s + 8) * (x / 2 ^ (s + 8)) + (v * 2 ^ s + x % 2 ^ s) := by
  have h0 := Nat.two_pow_pos s
  have h1 : x % 2 ^ s < 2 ^ s := Nat.mod_lt _ h0
  have h2 : 2 ^ (s + 8) = 2 ^ s * 256 := by rw [Nat.pow_add]
  have h3 : v * 2 ^ s ≤ 255 * 2 ^ s := Nat.mul_le_mul_right _ (by omega)
  rw [Nat.two_pow_add_eq_or_of_lt (by omega), Nat.two_pow_add_eq_or_of_lt (a := x / 2 ^ (s + 8)) (b := v * 2 ^ s + x % 2 ^ s) (by omega), Nat.mul_comm v, Nat.two_pow_add_eq_or_of_lt h1, Nat.or_assoc, Nat.or_comm (x % 2 ^ s)]
/-- a byte is laid into a number -/
theorem lay_byte {k : IntKind} (hk : k.signed = false) {x v : Int} (s : Nat) (hs : s + 8 ≤ k.bits) (h0 : 0 ≤ x) (h1 : x < 2 ^ k.bits) (h2 : 0 ≤ v) (h3 : v < 256) :
    bits .or k (bits .andNot k x (255 * 2 ^ s)) (v * 2 ^ s) = x - x / 2 ^ s % 256 * 2 ^ s + v * 2 ^ s := by
  obtain ⟨x, rfl⟩ := Int.eq_ofNat_of_zero_le h0
  obtain ⟨v, rfl⟩ := Int.eq_ofNat_of_zero_le h2
  have ek : ((2 : Int) ^ k.bits) = ((2 ^ k.bits : Nat) : Int) := by rw [Int.natCast_pow]; rfl
  have es : ((2 : Int) ^ s) = ((2 ^ s : Nat) : Int) := by rw [Int.natCast_pow]; rfl
  rw [ek] at h1
  have hx : x < 2 ^ k.bits := by omega
  have hp := Nat.two_pow_pos s
  have hm : 255 * 2 ^ s < 2 ^ k.bits := by
    have h1 : 2 ^ (s + 8) ≤ 2 ^ k.bits := Nat.pow_le_pow_right (by decide) hs
    have h2 : 2 ^ (s + 8) = 2 ^ s * 256 := by rw [Nat.pow_add]
    omega
  have e1 : bits .andNot k (x : Int) (255 * 2 ^ s) = ((2 ^ (s + 8) * (x / 2 ^ (s + 8)) + x % 2 ^ s : Nat) : Int) := by
    have em : (255 * 2 ^ s : Int) = ((255 * 2 ^ s : Nat) : Int) := by rw [Int.natCast_mul, es]; rfl
    rw [em]
    show k.wrap ((((BitVec.ofInt k.bits (x : Int)) &&& ~~~(BitVec.ofInt k.bits ((255 * 2 ^ s : Nat) : Int))).toNat : Nat) : Int) = _
    rw [BitVec.toNat_and, BitVec.toNat_not, bv_nat (Int.natCast_nonneg _) (by rw [ek]; exact h1), bv_nat (Int.natCast_nonneg _) (by rw [ek]; exact Int.ofNat_lt.2 hm), Int.toNat_natCast, Int.toNat_natCast, Nat.sub_sub, Nat.add_comm 1, nat_clear hx hs]
    refine unsigned_wrap hk (Int.natCast_nonneg _) ?_
    rw [ek]
    refine Int.ofNat_lt.2 ?_
    rw [← nat_clear hx hs]
    exact Nat.lt_of_le_of_lt Nat.and_le_left hx
  have hq : 2 ^ (s + 8) * (x / 2 ^ (s + 8)) + x % 2 ^ s < 2 ^ k.bits := by
    rw [← nat_clear hx hs]
    exact Nat.lt_of_le_of_lt Nat.and_le_left hx
  have hv : v < 256 := by omega
  have hv2 : v * 2 ^ s ≤ 255 * 2 ^ s := Nat.mul_le_mul_right _ (by omega)
  have e2 : ((v : Int) * 2 ^ s) = ((v * 2 ^ s : Nat) : Int) := by rw [Int.natCast_mul, es]
  rw [e1, e2, bits_or hk (Int.natCast_nonneg _) (by rw [ek]; exact Int.ofNat_lt.2 hq) (Int.natCast_nonneg _) (by rw [ek]; exact Int.ofNat_lt.2 (by omega)), Int.toNat_natCast, Int.toNat_natCast, nat_byte hv]
  have h5 : x = 2 ^ (s + 8) * (x / 2 ^ (s + 8)) + (x / 2 ^ s % 256 * 2 ^ s + x % 2 ^ s) := by
    have a1 := Nat.div_add_mod x (2 ^ s)
    have a2 := Nat.div_add_mod (x / 2 ^ s) 256
    have a3 : x / 2 ^ s / 256 = x / 2 ^ (s + 8) := by rw [Nat.div_div_eq_div_mul, Nat.pow_add]
    rw [a3] at a2
    have a4 : 2 ^ (s + 8) * (x / 2 ^ (s + 8)) = 2 ^ s * (256 * (x / 2 ^ (s + 8))) := by rw [Nat.pow_add, Nat.mul_assoc]
    rw [a4, Nat.mul_comm (x / 2 ^ s % 256)]
    have a5 : 2 ^ s * (256 * (x / 2 ^ (s + 8))) + (2 ^ s * (x / 2 ^ s % 256) + x % 2 ^ s) = 2 ^ s * (256 * (x / 2 ^ (s + 8)) + x / 2 ^ s % 256) + x % 2 ^ s := by rw [Nat.mul_add, Nat.add_assoc]
    rw [a5, a2]; exact a1.symm
  have h6 : ((x / 2 ^ s % 256 * 2 ^ s : Nat) : Int) = (x : Int) / 2 ^ s % 256 * 2 ^ s := by rw [Int.natCast_mul, Int.natCast_emod, Int.natCast_ediv, es]; rfl
  rw [← h6]
  omega
/-- what a descriptor says -/
structure Ent where
  kind : Int
  base : Int
  dom : Int
  ns : Bool
  ap : Int
  bits : Int
  ng : Bool
  xn : Bool
def Ent.zero : Ent := ⟨0, 0, 0, false, 0, 0, false, false⟩
structure Tr where
  size : Int
  va : Int
  pa : Int
  dom : Int
  ap : Int
  bits : Int
  ng : Bool
  xn : Bool
def Tr.zero : Tr := ⟨0, 0, 0, 0, 0, 0, false, false⟩
structure Ft where
  kind : Int
  level : Int
  dom : Int
def Ft.zero : Ft := ⟨0, 0, 0⟩
/-- a bit -/
def bt (w : Int) (i : Nat) : Bool := decide (w / 2 ^ i % 2 = 1)
/-- what a first-level word says -/
def D1 (w : Int) : Ent :=
  if w % 4 = 1 then ⟨1, w - w % 1024, w / 32 % 16, bt w 3, 0, 0, false, false⟩
  else if w % 4 = 2 then
    if w / 262144 % 2 = 1 then ⟨3, w / 16777216 * 16777216 + w / 1048576 % 16 * 4294967296 + w / 32 % 16 * 68719476736, 0, bt w 19, 4 * (w / 32768 % 2) + w / 1024 % 4, 8 * (w / 4096 % 8) + 2 * (w / 4 % 4) + w / 65536 % 2, bt w 17, bt w 4⟩
    else ⟨2, w - w % 1048576, w / 32 % 16, bt w 19, 4 * (w / 32768 % 2) + w / 1024 % 4, 8 * (w / 4096 % 8) + 2 * (w / 4 % 4) + w / 65536 % 2, bt w 17, bt w 4⟩
  else Ent.zero
/-- what a second-level word says -/
def D2 (w : Int) : Ent :=
  if w % 4 = 0 then Ent.zero
  else if w % 4 = 1 then ⟨4, w - w % 65536, 0, false, 4 * (w / 512 % 2) + w / 16 % 4, 8 * (w / 4096 % 8) + 2 * (w / 4 % 4) + w / 1024 % 2, bt w 11, bt w 15⟩
  else ⟨5, w - w % 4096, 0, false, 4 * (w / 512 % 2) + w / 16 % 4, 8 * (w / 64 % 8) + 2 * (w / 4 % 4) + w / 1024 % 2, bt w 11, bt w 0⟩
def leafOk (ap bits : Int) : Bool := decide (0 ≤ ap) && decide (ap ≤ 7) && decide (bits ≤ 63)
def placeOk (v : Int) (n top : Nat) : Bool := decide (v % 2 ^ n = 0) && decide (v < 2 ^ top)
def domOk (d : Int) : Bool := decide (0 ≤ d) && decide (d ≤ 15)
def says1 (e : Ent) : Bool :=
  if e.kind = 0 then decide (e.base = 0) && decide (e.dom = 0) && !e.ns && decide (e.ap = 0) && decide (e.bits = 0) && !e.ng && !e.xn
  else if e.kind = 1 then placeOk e.base 10 32 && domOk e.dom && (decide (e.ap = 0) && decide (e.bits = 0) && !e.ng && !e.xn)
  else if e.kind = 2 then placeOk e.base 20 32 && leafOk e.ap e.bits && domOk e.dom
  else if e.kind = 3 then placeOk e.base 24 40 && leafOk e.ap e.bits && decide (e.dom = 0)
  else false
def says2 (e : Ent) : Bool :=
  if e.kind = 0 then decide (e.base = 0) && decide (e.dom = 0) && !e.ns && decide (e.ap = 0) && decide (e.bits = 0) && !e.ng && !e.xn
  else if e.kind = 4 then placeOk e.base 16 32 && leafOk e.ap e.bits && decide (e.dom = 0) && !e.ns
  else if e.kind = 5 then placeOk e.base 12 32 && leafOk e.ap e.bits && decide (e.dom = 0) && !e.ns
  else false
def sizeK (k : Int) : Int := if k = 5 then 1 else if k = 4 then 2 else if k = 2 then 3 else if k = 3 then 4 else 0
/-- the size that a loop over the kinds has found behind so many -/
def sizeJ (k : Int) (j : Nat) : Int := if 1 ≤ j ∧ k = 5 then 1 else if 2 ≤ j ∧ k = 4 then 2 else if 3 ≤ j ∧ k = 2 then 3 else if 4 ≤ j ∧ k = 3 then 4 else 0
def repS (s : Int) : Int := if s = 1 ∨ s = 3 then 1 else if s = 2 ∨ s = 4 then 16 else 0
def shiftS (s : Int) : Nat := if s = 1 then 12 else if s = 2 then 16 else if s = 3 then 20 else if s = 4 then 24 else 0
/-- the translation of a block's entry at an address -/
def transS (e : Ent) (dom va : Int) : Tr :=
  if sizeK e.kind = 0 then Tr.zero
  else if 3 ≤ sizeK e.kind then (if says1 e = true then ⟨sizeK e.kind, va - va % 2 ^ shiftS (sizeK e.kind), e.base, e.dom, e.ap, e.bits, e.ng, e.xn⟩ else Tr.zero)
  else if says2 e = true ∧ domOk dom = true then ⟨sizeK e.kind, va - va % 2 ^ shiftS (sizeK e.kind), e.base, dom, e.ap, e.bits, e.ng, e.xn⟩
  else Tr.zero
def rightS (t : Tr) : Bool := decide (1 ≤ t.size) && decide (t.size ≤ 4) && placeOk t.va (shiftS t.size) 32 && domOk t.dom && (!decide (t.size = 4) || decide (t.dom = 0)) && placeOk t.pa (shiftS t.size) (if t.size = 4 then 40 else 32) && leafOk t.ap t.bits
/-- what a walk takes from the registers -/
structure Cx9 where
  on : Bool
  n : Int
  pd0 : Bool
  pd1 : Bool
  b0 : Int
  b1 : Int
def lowHalf (c : Cx9) (va : Int) : Prop := c.n % 8 = 0 ∨ va < 2 ^ (32 - (c.n % 8).toNat)
instance (c : Cx9) (va : Int) : Decidable (lowHalf c va) := by unfold lowHalf; exact inferInstance
def firstA (c : Cx9) (va : Int) : Int := if lowHalf c va then IntKind.u64.wrap (c.b0 - c.b0 % 2 ^ (14 - (c.n % 8).toNat) + va / 1048576 * 4) else IntKind.u64.wrap (c.b1 - c.b1 % 16384 + va / 1048576 * 4)
def firstOk (c : Cx9) (va : Int) : Bool := if lowHalf c va then !c.pd0 else !c.pd1
/-- a walk over a memory of so many frames with these bytes: what it finds, or the fault; what it reads -/
structure Wk where
  t : Tr
  f : Ft
  m : Nat
  a : Nat → Int
def secA (e : Ent) (va : Int) : Int := IntKind.u64.wrap (e.base + va / 4096 % 256 * 4)
def walkS (n : Int) (f : Int → Int) (c : Cx9) (va : Int) : Wk :=
  if c.on = false then ⟨⟨1, va - va % 4096, va - va % 4096, 0, 3, 0, false, false⟩, Ft.zero, 0, fun _ => 0⟩
  else if firstOk c va = false then ⟨Tr.zero, ⟨3, 0, 0⟩, 0, fun _ => 0⟩
  else if err n (firstA c va) 4 ≠ 0 then ⟨Tr.zero, ⟨2, 0, 0⟩, 1, fun _ => firstA c va⟩
  else if (D1 (le f (firstA c va) 4)).kind = 0 then ⟨Tr.zero, ⟨3, 0, 0⟩, 1, fun _ => firstA c va⟩
  else if (D1 (le f (firstA c va) 4)).kind ≠ 1 then ⟨transS (D1 (le f (firstA c va) 4)) 0 va, Ft.zero, 1, fun _ => firstA c va⟩
  else if err n (secA (D1 (le f (firstA c va) 4)) va) 4 ≠ 0 then ⟨Tr.zero, ⟨4, 0, (D1 (le f (firstA c va) 4)).dom⟩, 2, fun i => if i = 0 then firstA c va else secA (D1 (le f (firstA c va) 4)) va⟩
  else if (D2 (le f (secA (D1 (le f (firstA c va) 4)) va) 4)).kind = 0 then ⟨Tr.zero, ⟨5, 0, (D1 (le f (firstA c va) 4)).dom⟩, 2, fun i => if i = 0 then firstA c va else secA (D1 (le f (firstA c va) 4)) va⟩
  else ⟨transS (D2 (le f (secA (D1 (le f (firstA c va) 4)) va) 4)) (D1 (le f (firstA c va) 4)).dom va, Ft.zero, 2, fun i => if i = 0 then firstA c va else secA (D1 (le f (firstA c va) 4)) va⟩
/-- the bits that are laid so far -/
def BI (w : Int) (b2 b3 : Nat) (x : Nat × (Nat → Nat) × (Nat → Bool) × (Nat → Nat → Int)) : Prop := x.2.2.1 b2 = true ∧ x.2.2.1 b3 = true ∧ (∀ b, x.2.1 b = 32) ∧ ∀ i, i < 32 → x.2.2.2 b3 i = if i < x.1 then w / 2 ^ i % 2 else 0
theorem dle (a b : Int) : decide (a ≤ b) = !decide (b < a) := by by_cases h : b < a <;> simp [h] <;> omega
theorem bif_and (a b : Bool) : (bif a then b else false) = (a && b) := by cases a <;> rfl
theorem bif_or (a b : Bool) : (bif a then true else b) = (a || b) := by cases a <;> rfl
theorem pow_lt {n m : Nat} (h : n < m) : (2 : Int) ^ n < 2 ^ m := Int.pow_lt_pow_of_lt (by decide) h
theorem pow_wrap (m : Int) (h0 : 0 ≤ m) (h1 : m < 64) : IntKind.u64.wrap (1 * ((2 ^ min m.toNat 64 : Nat) : Int)) = 2 ^ m.toNat := by
  have hp := pow_lt (n := m.toNat) (m := 64) (by omega)
  have hp0 := Int.pow_pos (n := 2) (m := m.toNat) (by decide)
  rw [show min m.toNat 64 = m.toNat by omega, Int.natCast_pow, Int.one_mul]
  exact unsigned_wrap (k := .u64) rfl (by show 0 ≤ (2 : Int) ^ m.toNat; omega) hp
theorem field_eq {w lo n : Int} (h0 : 0 ≤ w) (h1 : w < 4294967296) (hn : n.toNat < 32) : bits .and .u32 (w / ((2 ^ lo.toNat : Nat) : Int)) (IntKind.u32.wrap (IntKind.u32.wrap (1 * ((2 ^ n.toNat : Nat) : Int)) - 1)) = w / 2 ^ lo.toNat % 2 ^ n.toNat := by
  have hp := pow_lt (n := n.toNat) (m := 32) hn
  have hp0 := Int.pow_pos (n := 2) (m := n.toNat) (by decide)
  rw [Int.natCast_pow, Int.natCast_pow, Int.one_mul]
  have e1 : IntKind.u32.wrap ((2 : Int) ^ n.toNat) = 2 ^ n.toNat := unsigned_wrap (k := .u32) rfl (by omega) hp
  have e2 : IntKind.u32.wrap ((2 : Int) ^ n.toNat - 1) = 2 ^ n.toNat - 1 := unsigned_wrap (k := .u32) rfl (by omega) (by show (2 : Int) ^ n.toNat - 1 < 2 ^ 32; omega)
  have e3 : (((2 : Nat) : Int)) = 2 := rfl
  rw [e3, e1, e2]
  have hq : 0 ≤ w / 2 ^ lo.toNat := Int.ediv_nonneg h0 (Int.le_of_lt (Int.pow_pos (by decide)))
  have hq2 : w / 2 ^ lo.toNat ≤ w := Int.ediv_le_self _ h0
  exact and_low (k := .u32) rfl hq (by show w / 2 ^ lo.toNat < 4294967296; omega) n.toNat hn
theorem shiftS_le (s : Int) : shiftS s ≤ 24 := by unfold shiftS; (repeat' split) <;> decide
theorem putBlk_at (g : Nat → Nat → Int) (b : Nat) (h : Nat → Int) : putBlk g b h b = h := by funext j; simp [putBlk]
theorem putD_at (d : Nat → Bool) (b : Nat) : putD d b b = true := by simp [putD]
theorem bit01 (w : Int) (i : Nat) : 0 ≤ w / 2 ^ i % 2 ∧ w / 2 ^ i % 2 ≤ 1 := by omega
theorem ap_eq {a b : Int} (h0 : 0 ≤ a) (h1 : a ≤ 1) (h2 : 0 ≤ b) (h3 : b ≤ 3) : IntKind.i64.wrap (IntKind.u32.wrap (IntKind.u32.wrap (4 * a) + b)) = 4 * a + b := by
  rw [wrap_u32 (x := 4 * a) (by omega) (by omega), wrap_u32 (by omega) (by omega), wrap_i64 (by omega) (by omega)]
theorem bi_eq {a b c : Int} (h0 : 0 ≤ a) (h1 : a ≤ 7) (h2 : 0 ≤ b) (h3 : b ≤ 3) (h4 : 0 ≤ c) (h5 : c ≤ 1) : IntKind.u32.wrap (IntKind.u32.wrap (IntKind.u32.wrap (8 * a) + IntKind.u32.wrap (2 * b)) + c) = 8 * a + 2 * b + c := by
  rw [wrap_u32 (x := 8 * a) (by omega) (by omega), wrap_u32 (x := 2 * b) (by omega) (by omega), wrap_u32 (x := 8 * a + 2 * b) (by omega) (by omega), wrap_u32 (by omega) (by omega)]
theorem bi_eq2 {a b c : Int} (h0 : 0 ≤ a) (h1 : a ≤ 7) (h2 : 0 ≤ b) (h3 : b ≤ 3) (h4 : 0 ≤ c) (h5 : c ≤ 1) : IntKind.u32.wrap (IntKind.u32.wrap (IntKind.u32.wrap (2 * b) + c) + IntKind.u32.wrap (8 * a)) = 8 * a + 2 * b + c := by
  rw [wrap_u32 (x := 8 * a) (by omega) (by omega), wrap_u32 (x := 2 * b) (by omega) (by omega), wrap_u32 (x := 2 * b + c) (by omega) (by omega), wrap_u32 (by omega) (by omega)]; omega
theorem an_u32 {w : Int} (h0 : 0 ≤ w) (h1 : w < 4294967296) (i : Nat) (hi : i < 32) (m p : Int) (hm : m = 2 ^ i - 1) (hp : p = 2 ^ i) : bits .andNot .u32 w m = w - w % p := by
  subst hm; subst hp; exact andNot_low (k := .u32) rfl h0 h1 i hi
theorem an_wrap {w : Int} (h0 : 0 ≤ w) (h1 : w < 4294967296) (i : Nat) (hi : i < 32) (m p : Int) (hm : m = 2 ^ i - 1) (hp : p = 2 ^ i) : IntKind.u64.wrap (bits .andNot .u32 w m) = w - w % p := by
  rw [an_u32 h0 h1 i hi m p hm hp]
  have hp0 : 0 < p := by rw [hp]; exact Int.pow_pos (by decide)
  have h2 := Int.emod_nonneg w (Int.ne_of_gt hp0)
  have h3 := Int.emod_lt_of_pos w hp0
  have h4 : w % p ≤ w := by
    have := Int.mul_ediv_add_emod w p
    have h5 : 0 ≤ p * (w / p) := Int.mul_nonneg (Int.le_of_lt hp0) (Int.ediv_nonneg h0 (Int.le_of_lt hp0))
    omega
  exact wrap_u64 (by omega) (by omega)
theorem sup_base {w : Int} (h0 : 0 ≤ w) (h1 : w < 4294967296) : bits .or .u64 (bits .or .u64 (IntKind.u64.wrap (bits .andNot .u32 w 16777215)) (IntKind.u64.wrap (IntKind.u64.wrap (w / 1048576 % 16) * 4294967296))) (IntKind.u64.wrap (IntKind.u64.wrap (w / 32 % 16) * 68719476736)) = w / 16777216 * 16777216 + w / 1048576 % 16 * 4294967296 + w / 32 % 16 * 68719476736 := by
  rw [an_wrap h0 h1 24 (by decide) 16777215 16777216 (by decide) (by decide), wrap_u64 (x := w / 1048576 % 16) (by omega) (by omega), wrap_u64 (x := w / 1048576 % 16 * 4294967296) (by omega) (by omega), wrap_u64 (x := w / 32 % 16) (by omega) (by omega), wrap_u64 (x := w / 32 % 16 * 68719476736) (by omega) (by omega)]
  have o1 := or_add' (k := .u64) rfl (a := w / 1048576 % 16) (b := w - w % 16777216) 32 (by omega) (by show w / 1048576 % 16 * 2 ^ 32 < 2 ^ 64; omega) (by omega) (by omega) (by decide)
  rw [show (2 : Int) ^ 32 = 4294967296 by decide] at o1
  rw [o1]
  have o2 := or_add' (k := .u64) rfl (a := w / 32 % 16) (b := w / 1048576 % 16 * 4294967296 + (w - w % 16777216)) 36 (by omega) (by show w / 32 % 16 * 2 ^ 36 < 2 ^ 64; omega) (by omega) (by omega) (by decide)
  rw [show (2 : Int) ^ 36 = 68719476736 by decide] at o2
  rw [o2]; omega
theorem numS_bd {g : Nat → Int} (hg : ∀ i : Nat, i < 32 → 0 ≤ g i ∧ g i ≤ 1) : ∀ c j : Nat, j + c ≤ 32 → 0 ≤ numS g j c ∧ numS g j c < 2 ^ c
  | 0, j, _ => by simp [numS]
  | c + 1, j, h => by
    have ih := numS_bd hg c (j + 1) (by omega)
    have := hg j (by omega)
    simp only [numS]
    rw [Int.pow_succ]
    omega
theorem ap_eq3 {a b : Int} (h0 : 0 ≤ a) (h1 : a ≤ 1) (h2 : 0 ≤ b) (h3 : b ≤ 3) : IntKind.i64.wrap (IntKind.i64.wrap (4 * a) + b) = 4 * a + b := by
  rw [wrap_i64 (x := 4 * a) (by omega) (by omega), wrap_i64 (by omega) (by omega)]
theorem bi_eq3 {w x c : Int} (h0 : 0 ≤ x) (h1 : x ≤ 7) (h4 : 0 ≤ c) (h5 : c ≤ 1) : IntKind.u32.wrap (IntKind.i64.wrap (IntKind.i64.wrap (IntKind.i64.wrap (IntKind.i64.wrap (8 * x) + IntKind.i64.wrap (4 * (w / 8 % 2))) + IntKind.i64.wrap (2 * (w / 4 % 2))) + c)) = 8 * x + 2 * (w / 4 % 4) + c := by
  rw [wrap_i64 (x := 8 * x) (by omega) (by omega), wrap_i64 (x := 4 * (w / 8 % 2)) (by omega) (by omega), wrap_i64 (x := 2 * (w / 4 % 2)) (by omega) (by omega), wrap_i64 (x := 8 * x + 4 * (w / 8 % 2)) (by omega) (by omega), wrap_i64 (x := 8 * x + 4 * (w / 8 % 2) + 2 * (w / 4 % 2)) (by omega) (by omega), wrap_i64 (by omega) (by omega), wrap_u32 (by omega) (by omega)]
  omega
theorem sup_base3 {w : Int} (h0 : 0 ≤ w) (h1 : w < 4294967296) : IntKind.u64.wrap (IntKind.u64.wrap (IntKind.u64.wrap (IntKind.u64.wrap (w / 16777216 % 256) * 16777216) + IntKind.u64.wrap (IntKind.u64.wrap (w / 1048576 % 16) * 4294967296)) + IntKind.u64.wrap (IntKind.u64.wrap (w / 32 % 16) * 68719476736)) = w / 16777216 * 16777216 + w / 1048576 % 16 * 4294967296 + w / 32 % 16 * 68719476736 := by
  rw [wrap_u64 (x := w / 16777216 % 256) (by omega) (by omega), wrap_u64 (x := w / 1048576 % 16) (by omega) (by omega), wrap_u64 (x := w / 32 % 16) (by omega) (by omega), wrap_u64 (x := w / 16777216 % 256 * 16777216) (by omega) (by omega), wrap_u64 (x := w / 1048576 % 16 * 4294967296) (by omega) (by omega), wrap_u64 (x := w / 32 % 16 * 68719476736) (by omega) (by omega), wrap_u64 (x := w / 16777216 % 256 * 16777216 + w / 1048576 % 16 * 4294967296) (by omega) (by omega), wrap_u64 (by omega) (by omega)]
  omega
noncomputable def fieldC : Con := ⟨51, fun args h => match args, h with
  | [.val (.one (.int .u32 (.tm w))), .val (.one (.int .u64 (.tm hi))), .val (.one (.int .u64 (.tm lo)))], [] => some [⟨none, some (0 ≤ w ∧ w < 4294967296 ∧ 0 ≤ lo ∧ lo ≤ hi ∧ hi - lo < 31 ∧ hi < 32), .det (.val (.one (.int .u32 (.tm (w / 2 ^ lo.toNat % 2 ^ (hi - lo + 1).toNat))))) ([])⟩]
  | _, _ => none, true⟩
theorem fieldC_p0 (w hi lo : Int) (hn : 0 ≤ w ∧ w < 4294967296 ∧ 0 ≤ lo ∧ lo ≤ hi ∧ hi - lo < 31 ∧ hi < 32) : ∃ anns, fnVC Tryd.prog GTab (callOf Tryd.prog GTab []) anns Tryd.f51 ((Tryd.f51.body).getD .skip) [.val (.one (.int .u32 (.tm w))), .val (.one (.int .u64 (.tm hi))), .val (.one (.int .u64 (.tm lo)))] [] ⟨none, some (0 ≤ w ∧ w < 4294967296 ∧ 0 ≤ lo ∧ lo ≤ hi ∧ hi - lo < 31 ∧ hi < 32), .det (.val (.one (.int .u32 (.tm (w / 2 ^ lo.toNat % 2 ^ (hi - lo + 1).toNat))))) ([])⟩ := by
  refine ⟨⟨[], [], [], [], [], [], []⟩, ?_⟩
  rw [show fnVC Tryd.prog GTab (callOf Tryd.prog GTab []) ⟨[], [], [], [], [], [], []⟩ Tryd.f51 ((Tryd.f51.body).getD .skip) [.val (.one (.int .u32 (.tm w))), .val (.one (.int .u64 (.tm hi))), .val (.one (.int .u64 (.tm lo)))] [] ⟨none, some (0 ≤ w ∧ w < 4294967296 ∧ 0 ≤ lo ∧ lo ≤ hi ∧ hi - lo < 31 ∧ hi < 32), .det (.val (.one (.int .u32 (.tm (w / 2 ^ lo.toNat % 2 ^ (hi - lo + 1).toNat))))) ([])⟩ = ((0 : Int) ≤ lo ∧ (0 : Int) ≤ IntKind.u64.wrap (IntKind.u64.wrap (hi - lo) + (1 : Int)) ∧ bits BinOp.and IntKind.u32 (w / (↑((2 : Nat) ^ min lo.toNat (32 : Nat)) : Int)) (IntKind.u32.wrap (IntKind.u32.wrap ((1 : Int) * (↑((2 : Nat) ^ min (IntKind.u64.wrap (IntKind.u64.wrap (hi - lo) + (1 : Int))).toNat (32 : Nat)) : Int)) - (1 : Int))) = w / (2 : Int) ^ lo.toNat % (2 : Int) ^ (hi - lo + (1 : Int)).toNat) from by kernel_rfl]
  obtain ⟨h0, h1, h2, h3, h4, h5⟩ := hn
  have e1 : IntKind.u64.wrap (IntKind.u64.wrap (hi - lo) + 1) = hi - lo + 1 := by
    rw [wrap_u64 (x := hi - lo) (by omega) (by omega), wrap_u64 (by omega) (by omega)]
  refine ⟨h2, by rw [e1]; omega, ?_⟩
  rw [e1, show min lo.toNat 32 = lo.toNat by omega, show min (hi - lo + 1).toNat 32 = (hi - lo + 1).toNat by omega]
  exact field_eq h0 h1 (by omega)
theorem fieldC_ch (w hi lo : Int) : ∃ r ∈ ([⟨none, some (0 ≤ w ∧ w < 4294967296 ∧ 0 ≤ lo ∧ lo ≤ hi ∧ hi - lo < 31 ∧ hi < 32), .det (.val (.one (.int .u32 (.tm (w / 2 ^ lo.toNat % 2 ^ (hi - lo + 1).toNat))))) ([])⟩] : List Res), holdsP r.g ∧ (holdsP r.need → r.r.shaped [] ∧ ∃ anns, fnVC Tryd.prog GTab (callOf Tryd.prog GTab []) anns Tryd.f51 ((Tryd.f51.body).getD .skip) [.val (.one (.int .u32 (.tm w))), .val (.one (.int .u64 (.tm hi))), .val (.one (.int .u64 (.tm lo)))] [] r) := by
  exact ⟨_, List.mem_cons_self, trivial, fun hn => ⟨trivial, fieldC_p0 w hi lo hn⟩⟩
theorem fieldC_ok : fieldC.ok Tryd.prog GTab := by
  refine con_ok (cs := []) (body := (Tryd.f51.body).getD .skip) ?_ Tryd.func51 rfl ?_
  · intro c h; cases h
  · intro args h l hl
    unfold fieldC at hl
    dsimp only at hl
    split at hl
    · cases hl
      exact fieldC_ch _ _ _
    · cases hl
noncomputable def bitC : Con := ⟨52, fun args h => match args, h with
  | [.val (.one (.int .u32 (.tm w))), .val (.one (.int .u64 (.tm i)))], [] => some [⟨none, some (0 ≤ w ∧ w < 4294967296 ∧ 0 ≤ i ∧ i < 32), .det (.val (.one (.bool (.tm (bt w i.toNat))))) ([])⟩]
  | _, _ => none, true⟩
theorem bitC_p0 (w i : Int) (hn : 0 ≤ w ∧ w < 4294967296 ∧ 0 ≤ i ∧ i < 32) : ∃ anns, fnVC Tryd.prog GTab (callOf Tryd.prog GTab []) anns Tryd.f52 ((Tryd.f52.body).getD .skip) [.val (.one (.int .u32 (.tm w))), .val (.one (.int .u64 (.tm i)))] [] ⟨none, some (0 ≤ w ∧ w < 4294967296 ∧ 0 ≤ i ∧ i < 32), .det (.val (.one (.bool (.tm (bt w i.toNat))))) ([])⟩ := by
  refine ⟨⟨[], [], [], [], [], [], []⟩, ?_⟩
  rw [show fnVC Tryd.prog GTab (callOf Tryd.prog GTab []) ⟨[], [], [], [], [], [], []⟩ Tryd.f52 ((Tryd.f52.body).getD .skip) [.val (.one (.int .u32 (.tm w))), .val (.one (.int .u64 (.tm i)))] [] ⟨none, some (0 ≤ w ∧ w < 4294967296 ∧ 0 ≤ i ∧ i < 32), .det (.val (.one (.bool (.tm (bt w i.toNat))))) ([])⟩ = ((0 : Int) ≤ i ∧ decide (bits BinOp.and IntKind.u32 (w / (↑((2 : Nat) ^ min i.toNat (32 : Nat)) : Int)) (1 : Int) = (1 : Int)) = bt w i.toNat) from by kernel_rfl]
  obtain ⟨h0, h1, h2, h3⟩ := hn
  refine ⟨h2, ?_⟩
  rw [show min i.toNat 32 = i.toNat by omega]
  have := and_low (k := .u32) rfl (x := w / ((2 ^ i.toNat : Nat) : Int)) (Int.ediv_nonneg h0 (Int.natCast_nonneg _)) (Int.lt_of_le_of_lt (Int.ediv_le_self _ h0) h1) 1 (by decide)
  simp only [show (2 : Int) ^ 1 = 2 by decide, show (2 : Int) - 1 = 1 by decide] at this
  rw [this, bt, Int.natCast_pow]; rfl
theorem bitC_ch (w i : Int) : ∃ r ∈ ([⟨none, some (0 ≤ w ∧ w < 4294967296 ∧ 0 ≤ i ∧ i < 32), .det (.val (.one (.bool (.tm (bt w i.toNat))))) ([])⟩] : List Res), holdsP r.g ∧ (holdsP r.need → r.r.shaped [] ∧ ∃ anns, fnVC Tryd.prog GTab (callOf Tryd.prog GTab []) anns Tryd.f52 ((Tryd.f52.body).getD .skip) [.val (.one (.int .u32 (.tm w))), .val (.one (.int .u64 (.tm i)))] [] r) := by
  exact ⟨_, List.mem_cons_self, trivial, fun hn => ⟨trivial, bitC_p0 w i hn⟩⟩
theorem bitC_ok : bitC.ok Tryd.prog GTab := by
  refine con_ok (cs := []) (body := (Tryd.f52.body).getD .skip) ?_ Tryd.func52 rfl ?_
  · intro c h; cases h
  · intro args h l hl
    unfold bitC at hl
    dsimp only at hl
    split at hl
    · cases hl
      exact bitC_ch _ _
    · cases hl
noncomputable def dec1C : Con := ⟨29, fun args h => match args, h with
  | [.val (.one (.int .u32 (.tm w)))], [] => some [⟨none, some (0 ≤ w ∧ w < 4294967296), .det (.val (.agg [.int .i64 (.tm ((D1 w).kind)), .int .u64 (.tm ((D1 w).base)), .int .i64 (.tm ((D1 w).dom)), .bool (.tm ((D1 w).ns)), .int .i64 (.tm ((D1 w).ap)), .int .u32 (.tm ((D1 w).bits)), .bool (.tm ((D1 w).ng)), .bool (.tm ((D1 w).xn))])) ([])⟩]
  | _, _ => none, true⟩
theorem dec1C_p0 (w : Int) (hn : 0 ≤ w ∧ w < 4294967296) : ∃ anns, fnVC Tryd.prog GTab (callOf Tryd.prog GTab [fieldC, bitC]) anns Tryd.f29 ((Tryd.f29.body).getD .skip) [.val (.one (.int .u32 (.tm w)))] [] ⟨none, some (0 ≤ w ∧ w < 4294967296), .det (.val (.agg [.int .i64 (.tm ((D1 w).kind)), .int .u64 (.tm ((D1 w).base)), .int .i64 (.tm ((D1 w).dom)), .bool (.tm ((D1 w).ns)), .int .i64 (.tm ((D1 w).ap)), .int .u32 (.tm ((D1 w).bits)), .bool (.tm ((D1 w).ng)), .bool (.tm ((D1 w).xn))])) ([])⟩ := by
  refine ⟨⟨[], [], [], [], [], [], []⟩, ?_⟩
  rw [show fnVC Tryd.prog GTab (callOf Tryd.prog GTab [fieldC, bitC]) ⟨[], [], [], [], [], [], []⟩ Tryd.f29 ((Tryd.f29.body).getD .skip) [.val (.one (.int .u32 (.tm w)))] [] ⟨none, some (0 ≤ w ∧ w < 4294967296), .det (.val (.agg [.int .i64 (.tm ((D1 w).kind)), .int .u64 (.tm ((D1 w).base)), .int .i64 (.tm ((D1 w).dom)), .bool (.tm ((D1 w).ns)), .int .i64 (.tm ((D1 w).ap)), .int .u32 (.tm ((D1 w).bits)), .bool (.tm ((D1 w).ng)), .bool (.tm ((D1 w).xn))])) ([])⟩ = (((0 : Int) ≤ w ∧ w < (4294967296 : Int) ∧ (0 : Int) ≤ (0 : Int) ∧ (0 : Int) ≤ (1 : Int) ∧ (1 : Int) - (0 : Int) < (31 : Int) ∧ (1 : Int) < (32 : Int)) ∧ (decide (w / (2 : Int) ^ (0 : Nat) % (2 : Int) ^ (2 : Nat) = (1 : Int)) = true → ((0 : Int) ≤ w ∧ w < (4294967296 : Int) ∧ (0 : Int) ≤ (5 : Int) ∧ (5 : Int) ≤ (8 : Int) ∧ (8 : Int) - (5 : Int) < (31 : Int) ∧ (8 : Int) < (32 : Int)) ∧ ((0 : Int) ≤ w ∧ w < (4294967296 : Int) ∧ (0 : Int) ≤ (3 : Int) ∧ (3 : Int) < (32 : Int)) ∧ (1 : Int) = (D1 w).kind ∧ IntKind.u64.wrap (bits BinOp.andNot IntKind.u32 w (1023 : Int)) = (D1 w).base ∧ IntKind.i64.wrap (w / (2 : Int) ^ (5 : Nat) % (2 : Int) ^ (4 : Nat)) = (D1 w).dom ∧ bt w (3 : Nat) = (D1 w).ns ∧ (0 : Int) = (D1 w).ap ∧ (0 : Int) = (D1 w).bits ∧ false = (D1 w).ng ∧ false = (D1 w).xn) ∧ (decide (w / (2 : Int) ^ (0 : Nat) % (2 : Int) ^ (2 : Nat) = (1 : Int)) = false → (decide (w / (2 : Int) ^ (0 : Nat) % (2 : Int) ^ (2 : Nat) = (2 : Int)) = true → ((0 : Int) ≤ w ∧ w < (4294967296 : Int) ∧ (0 : Int) ≤ (5 : Int) ∧ (5 : Int) ≤ (8 : Int) ∧ (8 : Int) - (5 : Int) < (31 : Int) ∧ (8 : Int) < (32 : Int)) ∧ ((0 : Int) ≤ w ∧ w < (4294967296 : Int) ∧ (0 : Int) ≤ (19 : Int) ∧ (19 : Int) < (32 : Int)) ∧ ((0 : Int) ≤ w ∧ w < (4294967296 : Int) ∧ (0 : Int) ≤ (15 : Int) ∧ (15 : Int) ≤ (15 : Int) ∧ (15 : Int) - (15 : Int) < (31 : Int) ∧ (15 : Int) < (32 : Int)) ∧ ((0 : Int) ≤ w ∧ w < (4294967296 : Int) ∧ (0 : Int) ≤ (10 : Int) ∧ (10 : Int) ≤ (11 : Int) ∧ (11 : Int) - (10 : Int) < (31 : Int) ∧ (11 : Int) < (32 : Int)) ∧ ((0 : Int) ≤ w ∧ w < (4294967296 : Int) ∧ (0 : Int) ≤ (12 : Int) ∧ (12 : Int) ≤ (14 : Int) ∧ (14 : Int) - (12 : Int) < (31 : Int) ∧ (14 : Int) < (32 : Int)) ∧ ((0 : Int) ≤ w ∧ w < (4294967296 : Int) ∧ (0 : Int) ≤ (2 : Int) ∧ (2 : Int) ≤ (3 : Int) ∧ (3 : Int) - (2 : Int) < (31 : Int) ∧ (3 : Int) < (32 : Int)) ∧ ((0 : Int) ≤ w ∧ w < (4294967296 : Int) ∧ (0 : Int) ≤ (16 : Int) ∧ (16 : Int) ≤ (16 : Int) ∧ (16 : Int) - (16 : Int) < (31 : Int) ∧ (16 : Int) < (32 : Int)) ∧ ((0 : Int) ≤ w ∧ w < (4294967296 : Int) ∧ (0 : Int) ≤ (17 : Int) ∧ (17 : Int) < (32 : Int)) ∧ ((0 : Int) ≤ w ∧ w < (4294967296 : Int) ∧ (0 : Int) ≤ (4 : Int) ∧ (4 : Int) < (32 : Int)) ∧ ((0 : Int) ≤ w ∧ w < (4294967296 : Int) ∧ (0 : Int) ≤ (18 : Int) ∧ (18 : Int) < (32 : Int)) ∧ (bt w (18 : Nat) = true → ((0 : Int) ≤ w ∧ w < (4294967296 : Int) ∧ (0 : Int) ≤ (20 : Int) ∧ (20 : Int) ≤ (23 : Int) ∧ (23 : Int) - (20 : Int) < (31 : Int) ∧ (23 : Int) < (32 : Int)) ∧ ((0 : Int) ≤ w ∧ w < (4294967296 : Int) ∧ (0 : Int) ≤ (5 : Int) ∧ (5 : Int) ≤ (8 : Int) ∧ (8 : Int) - (5 : Int) < (31 : Int) ∧ (8 : Int) < (32 : Int)) ∧ (3 : Int) = (D1 w).kind ∧ bits BinOp.or IntKind.u64 (bits BinOp.or IntKind.u64 (IntKind.u64.wrap (bits BinOp.andNot IntKind.u32 w (16777215 : Int))) (IntKind.u64.wrap (IntKind.u64.wrap (w / (2 : Int) ^ (20 : Nat) % (2 : Int) ^ (4 : Nat)) * (↑(4294967296 : Nat) : Int)))) (IntKind.u64.wrap (IntKind.u64.wrap (w / (2 : Int) ^ (5 : Nat) % (2 : Int) ^ (4 : Nat)) * (↑(68719476736 : Nat) : Int))) = (D1 w).base ∧ (0 : Int) = (D1 w).dom ∧ bt w (19 : Nat) = (D1 w).ns ∧ IntKind.i64.wrap (IntKind.u32.wrap (IntKind.u32.wrap ((4 : Int) * (w / (2 : Int) ^ (15 : Nat) % (2 : Int) ^ (1 : Nat))) + w / (2 : Int) ^ (10 : Nat) % (2 : Int) ^ (2 : Nat))) = (D1 w).ap ∧ IntKind.u32.wrap (IntKind.u32.wrap (IntKind.u32.wrap ((8 : Int) * (w / (2 : Int) ^ (12 : Nat) % (2 : Int) ^ (3 : Nat))) + IntKind.u32.wrap ((2 : Int) * (w / (2 : Int) ^ (2 : Nat) % (2 : Int) ^ (2 : Nat)))) + w / (2 : Int) ^ (16 : Nat) % (2 : Int) ^ (1 : Nat)) = (D1 w).bits ∧ bt w (17 : Nat) = (D1 w).ng ∧ bt w (4 : Nat) = (D1 w).xn) ∧ (bt w (18 : Nat) = false → (2 : Int) = (D1 w).kind ∧ IntKind.u64.wrap (bits BinOp.andNot IntKind.u32 w (1048575 : Int)) = (D1 w).base ∧ IntKind.i64.wrap (w / (2 : Int) ^ (5 : Nat) % (2 : Int) ^ (4 : Nat)) = (D1 w).dom ∧ bt w (19 : Nat) = (D1 w).ns ∧ IntKind.i64.wrap (IntKind.u32.wrap (IntKind.u32.wrap ((4 : Int) * (w / (2 : Int) ^ (15 : Nat) % (2 : Int) ^ (1 : Nat))) + w / (2 : Int) ^ (10 : Nat) % (2 : Int) ^ (2 : Nat))) = (D1 w).ap ∧ IntKind.u32.wrap (IntKind.u32.wrap (IntKind.u32.wrap ((8 : Int) * (w / (2 : Int) ^ (12 : Nat) % (2 : Int) ^ (3 : Nat))) + IntKind.u32.wrap ((2 : Int) * (w / (2 : Int) ^ (2 : Nat) % (2 : Int) ^ (2 : Nat)))) + w / (2 : Int) ^ (16 : Nat) % (2 : Int) ^ (1 : Nat)) = (D1 w).bits ∧ bt w (17 : Nat) = (D1 w).ng ∧ bt w (4 : Nat) = (D1 w).xn)) ∧ (decide (w / (2 : Int) ^ (0 : Nat) % (2 : Int) ^ (2 : Nat) = (2 : Int)) = false → (0 : Int) = (D1 w).kind ∧ (0 : Int) = (D1 w).base ∧ (0 : Int) = (D1 w).dom ∧ false = (D1 w).ns ∧ (0 : Int) = (D1 w).ap ∧ (0 : Int) = (D1 w).bits ∧ false = (D1 w).ng ∧ false = (D1 w).xn))) from by kernel_rfl]
  obtain ⟨h0, h1⟩ := hn
  have edm : IntKind.i64.wrap (w / 32 % 16) = w / 32 % 16 := wrap_i64 (by omega) (by omega)
  by_cases k1 : w % 4 = 1
  · have hD : D1 w = ⟨1, w - w % 1024, w / 32 % 16, bt w 3, 0, 0, false, false⟩ := by unfold D1; rw [if_pos k1]
    have e1 := an_wrap h0 h1 10 (by decide) 1023 1024 (by decide) (by decide)
    rw [hD]
    simp [k1, h0, h1, e1, edm]
  by_cases k2 : w % 4 = 2
  · have eap := ap_eq (a := w / 32768 % 2) (b := w / 1024 % 4) (by omega) (by omega) (by omega) (by omega)
    have ebi := bi_eq (a := w / 4096 % 8) (b := w / 4 % 4) (c := w / 65536 % 2) (by omega) (by omega) (by omega) (by omega) (by omega) (by omega)
    by_cases k3 : w / 262144 % 2 = 1
    · have hD : D1 w = ⟨3, w / 16777216 * 16777216 + w / 1048576 % 16 * 4294967296 + w / 32 % 16 * 68719476736, 0, bt w 19, 4 * (w / 32768 % 2) + w / 1024 % 4, 8 * (w / 4096 % 8) + 2 * (w / 4 % 4) + w / 65536 % 2, bt w 17, bt w 4⟩ := by unfold D1; rw [if_neg k1, if_pos k2, if_pos k3]
      have hb : bt w 18 = true := decide_eq_true k3
      have e1 := sup_base h0 h1
      rw [hD]
      simp [k2, h0, h1, hb, e1, eap, ebi]
    · have hD : D1 w = ⟨2, w - w % 1048576, w / 32 % 16, bt w 19, 4 * (w / 32768 % 2) + w / 1024 % 4, 8 * (w / 4096 % 8) + 2 * (w / 4 % 4) + w / 65536 % 2, bt w 17, bt w 4⟩ := by unfold D1; rw [if_neg k1, if_pos k2, if_neg k3]
      have hb : bt w 18 = false := decide_eq_false k3
      have e1 := an_wrap h0 h1 20 (by decide) 1048575 1048576 (by decide) (by decide)
      rw [hD]
      simp [k2, h0, h1, hb, e1, eap, ebi, edm]
  · have hD : D1 w = Ent.zero := by unfold D1; rw [if_neg k1, if_neg k2]
    rw [hD]
    simp [k1, k2, h0, h1, Ent.zero]
theorem dec1C_ch (w : Int) : ∃ r ∈ ([⟨none, some (0 ≤ w ∧ w < 4294967296), .det (.val (.agg [.int .i64 (.tm ((D1 w).kind)), .int .u64 (.tm ((D1 w).base)), .int .i64 (.tm ((D1 w).dom)), .bool (.tm ((D1 w).ns)), .int .i64 (.tm ((D1 w).ap)), .int .u32 (.tm ((D1 w).bits)), .bool (.tm ((D1 w).ng)), .bool (.tm ((D1 w).xn))])) ([])⟩] : List Res), holdsP r.g ∧ (holdsP r.need → r.r.shaped [] ∧ ∃ anns, fnVC Tryd.prog GTab (callOf Tryd.prog GTab [fieldC, bitC]) anns Tryd.f29 ((Tryd.f29.body).getD .skip) [.val (.one (.int .u32 (.tm w)))] [] r) := by
  exact ⟨_, List.mem_cons_self, trivial, fun hn => ⟨trivial, dec1C_p0 w hn⟩⟩
theorem dec1C_ok : dec1C.ok Tryd.prog GTab := by
  refine con_ok (cs := [fieldC, bitC]) (body := (Tryd.f29.body).getD .skip) ?_ Tryd.func29 rfl ?_
  · intro c h
    simp only [List.mem_cons, List.not_mem_nil, or_false] at h
    rcases h with rfl | rfl
    · exact fieldC_ok
    · exact bitC_ok
  · intro args h l hl
    unfold dec1C at hl
    dsimp only at hl
    split at hl
    · cases hl
      exact dec1C_ch _
    · cases hl
noncomputable def dec2C : Con := ⟨30, fun args h => match args, h with
  | [.val (.one (.int .u32 (.tm w)))], [] => some [⟨none, some (0 ≤ w ∧ w < 4294967296), .det (.val (.agg [.int .i64 (.tm ((D2 w).kind)), .int .u64 (.tm ((D2 w).base)), .int .i64 (.tm ((D2 w).dom)), .bool (.tm ((D2 w).ns)), .int .i64 (.tm ((D2 w).ap)), .int .u32 (.tm ((D2 w).bits)), .bool (.tm ((D2 w).ng)), .bool (.tm ((D2 w).xn))])) ([])⟩]
  | _, _ => none, true⟩
theorem dec2C_p0 (w : Int) (hn : 0 ≤ w ∧ w < 4294967296) : ∃ anns, fnVC Tryd.prog GTab (callOf Tryd.prog GTab [fieldC, bitC]) anns Tryd.f30 ((Tryd.f30.body).getD .skip) [.val (.one (.int .u32 (.tm w)))] [] ⟨none, some (0 ≤ w ∧ w < 4294967296), .det (.val (.agg [.int .i64 (.tm ((D2 w).kind)), .int .u64 (.tm ((D2 w).base)), .int .i64 (.tm ((D2 w).dom)), .bool (.tm ((D2 w).ns)), .int .i64 (.tm ((D2 w).ap)), .int .u32 (.tm ((D2 w).bits)), .bool (.tm ((D2 w).ng)), .bool (.tm ((D2 w).xn))])) ([])⟩ := by
  refine ⟨⟨[], [], [], [], [], [], []⟩, ?_⟩
  rw [show fnVC Tryd.prog GTab (callOf Tryd.prog GTab [fieldC, bitC]) ⟨[], [], [], [], [], [], []⟩ Tryd.f30 ((Tryd.f30.body).getD .skip) [.val (.one (.int .u32 (.tm w)))] [] ⟨none, some (0 ≤ w ∧ w < 4294967296), .det (.val (.agg [.int .i64 (.tm ((D2 w).kind)), .int .u64 (.tm ((D2 w).base)), .int .i64 (.tm ((D2 w).dom)), .bool (.tm ((D2 w).ns)), .int .i64 (.tm ((D2 w).ap)), .int .u32 (.tm ((D2 w).bits)), .bool (.tm ((D2 w).ng)), .bool (.tm ((D2 w).xn))])) ([])⟩ = (((0 : Int) ≤ w ∧ w < (4294967296 : Int) ∧ (0 : Int) ≤ (9 : Int) ∧ (9 : Int) ≤ (9 : Int) ∧ (9 : Int) - (9 : Int) < (31 : Int) ∧ (9 : Int) < (32 : Int)) ∧ ((0 : Int) ≤ w ∧ w < (4294967296 : Int) ∧ (0 : Int) ≤ (4 : Int) ∧ (4 : Int) ≤ (5 : Int) ∧ (5 : Int) - (4 : Int) < (31 : Int) ∧ (5 : Int) < (32 : Int)) ∧ ((0 : Int) ≤ w ∧ w < (4294967296 : Int) ∧ (0 : Int) ≤ (2 : Int) ∧ (2 : Int) ≤ (3 : Int) ∧ (3 : Int) - (2 : Int) < (31 : Int) ∧ (3 : Int) < (32 : Int)) ∧ ((0 : Int) ≤ w ∧ w < (4294967296 : Int) ∧ (0 : Int) ≤ (10 : Int) ∧ (10 : Int) ≤ (10 : Int) ∧ (10 : Int) - (10 : Int) < (31 : Int) ∧ (10 : Int) < (32 : Int)) ∧ ((0 : Int) ≤ w ∧ w < (4294967296 : Int) ∧ (0 : Int) ≤ (11 : Int) ∧ (11 : Int) < (32 : Int)) ∧ ((0 : Int) ≤ w ∧ w < (4294967296 : Int) ∧ (0 : Int) ≤ (0 : Int) ∧ (0 : Int) ≤ (1 : Int) ∧ (1 : Int) - (0 : Int) < (31 : Int) ∧ (1 : Int) < (32 : Int)) ∧ (decide (w / (2 : Int) ^ (0 : Nat) % (2 : Int) ^ (2 : Nat) = (0 : Int)) = true → (0 : Int) = (D2 w).kind ∧ (0 : Int) = (D2 w).base ∧ (0 : Int) = (D2 w).dom ∧ false = (D2 w).ns ∧ (0 : Int) = (D2 w).ap ∧ (0 : Int) = (D2 w).bits ∧ false = (D2 w).ng ∧ false = (D2 w).xn) ∧ (decide (w / (2 : Int) ^ (0 : Nat) % (2 : Int) ^ (2 : Nat) = (0 : Int)) = false → (decide (w / (2 : Int) ^ (0 : Nat) % (2 : Int) ^ (2 : Nat) = (1 : Int)) = true → ((0 : Int) ≤ w ∧ w < (4294967296 : Int) ∧ (0 : Int) ≤ (12 : Int) ∧ (12 : Int) ≤ (14 : Int) ∧ (14 : Int) - (12 : Int) < (31 : Int) ∧ (14 : Int) < (32 : Int)) ∧ ((0 : Int) ≤ w ∧ w < (4294967296 : Int) ∧ (0 : Int) ≤ (15 : Int) ∧ (15 : Int) < (32 : Int)) ∧ (4 : Int) = (D2 w).kind ∧ IntKind.u64.wrap (bits BinOp.andNot IntKind.u32 w (65535 : Int)) = (D2 w).base ∧ (0 : Int) = (D2 w).dom ∧ false = (D2 w).ns ∧ IntKind.i64.wrap (IntKind.u32.wrap (IntKind.u32.wrap ((4 : Int) * (w / (2 : Int) ^ (9 : Nat) % (2 : Int) ^ (1 : Nat))) + w / (2 : Int) ^ (4 : Nat) % (2 : Int) ^ (2 : Nat))) = (D2 w).ap ∧ IntKind.u32.wrap (IntKind.u32.wrap (IntKind.u32.wrap ((2 : Int) * (w / (2 : Int) ^ (2 : Nat) % (2 : Int) ^ (2 : Nat))) + w / (2 : Int) ^ (10 : Nat) % (2 : Int) ^ (1 : Nat)) + IntKind.u32.wrap ((8 : Int) * (w / (2 : Int) ^ (12 : Nat) % (2 : Int) ^ (3 : Nat)))) = (D2 w).bits ∧ bt w (11 : Nat) = (D2 w).ng ∧ bt w (15 : Nat) = (D2 w).xn) ∧ (decide (w / (2 : Int) ^ (0 : Nat) % (2 : Int) ^ (2 : Nat) = (1 : Int)) = false → ((0 : Int) ≤ w ∧ w < (4294967296 : Int) ∧ (0 : Int) ≤ (6 : Int) ∧ (6 : Int) ≤ (8 : Int) ∧ (8 : Int) - (6 : Int) < (31 : Int) ∧ (8 : Int) < (32 : Int)) ∧ ((0 : Int) ≤ w ∧ w < (4294967296 : Int) ∧ (0 : Int) ≤ (0 : Int) ∧ (0 : Int) < (32 : Int)) ∧ (5 : Int) = (D2 w).kind ∧ IntKind.u64.wrap (bits BinOp.andNot IntKind.u32 w (4095 : Int)) = (D2 w).base ∧ (0 : Int) = (D2 w).dom ∧ false = (D2 w).ns ∧ IntKind.i64.wrap (IntKind.u32.wrap (IntKind.u32.wrap ((4 : Int) * (w / (2 : Int) ^ (9 : Nat) % (2 : Int) ^ (1 : Nat))) + w / (2 : Int) ^ (4 : Nat) % (2 : Int) ^ (2 : Nat))) = (D2 w).ap ∧ IntKind.u32.wrap (IntKind.u32.wrap (IntKind.u32.wrap ((2 : Int) * (w / (2 : Int) ^ (2 : Nat) % (2 : Int) ^ (2 : Nat))) + w / (2 : Int) ^ (10 : Nat) % (2 : Int) ^ (1 : Nat)) + IntKind.u32.wrap ((8 : Int) * (w / (2 : Int) ^ (6 : Nat) % (2 : Int) ^ (3 : Nat)))) = (D2 w).bits ∧ bt w (11 : Nat) = (D2 w).ng ∧ bt w (0 : Nat) = (D2 w).xn))) from by kernel_rfl]
  obtain ⟨h0, h1⟩ := hn
  have eap := ap_eq (a := w / 512 % 2) (b := w / 16 % 4) (by omega) (by omega) (by omega) (by omega)
  by_cases k1 : w % 4 = 0
  · have hD : D2 w = Ent.zero := by unfold D2; rw [if_pos k1]
    rw [hD]
    simp [k1, h0, h1, Ent.zero]
  by_cases k2 : w % 4 = 1
  · have hD : D2 w = ⟨4, w - w % 65536, 0, false, 4 * (w / 512 % 2) + w / 16 % 4, 8 * (w / 4096 % 8) + 2 * (w / 4 % 4) + w / 1024 % 2, bt w 11, bt w 15⟩ := by unfold D2; rw [if_neg k1, if_pos k2]
    have ebi := bi_eq2 (a := w / 4096 % 8) (b := w / 4 % 4) (c := w / 1024 % 2) (by omega) (by omega) (by omega) (by omega) (by omega) (by omega)
    have e1 := an_wrap h0 h1 16 (by decide) 65535 65536 (by decide) (by decide)
    rw [hD]
    simp [k2, h0, h1, e1, eap, ebi]
  · have hD : D2 w = ⟨5, w - w % 4096, 0, false, 4 * (w / 512 % 2) + w / 16 % 4, 8 * (w / 64 % 8) + 2 * (w / 4 % 4) + w / 1024 % 2, bt w 11, bt w 0⟩ := by unfold D2; rw [if_neg k1, if_neg k2]
    have ebi := bi_eq2 (a := w / 64 % 8) (b := w / 4 % 4) (c := w / 1024 % 2) (by omega) (by omega) (by omega) (by omega) (by omega) (by omega)
    have e1 := an_wrap h0 h1 12 (by decide) 4095 4096 (by decide) (by decide)
    rw [hD]
    simp [k1, k2, h0, h1, e1, eap, ebi]
theorem dec2C_ch (w : Int) : ∃ r ∈ ([⟨none, some (0 ≤ w ∧ w < 4294967296), .det (.val (.agg [.int .i64 (.tm ((D2 w).kind)), .int .u64 (.tm ((D2 w).base)), .int .i64 (.tm ((D2 w).dom)), .bool (.tm ((D2 w).ns)), .int .i64 (.tm ((D2 w).ap)), .int .u32 (.tm ((D2 w).bits)), .bool (.tm ((D2 w).ng)), .bool (.tm ((D2 w).xn))])) ([])⟩] : List Res), holdsP r.g ∧ (holdsP r.need → r.r.shaped [] ∧ ∃ anns, fnVC Tryd.prog GTab (callOf Tryd.prog GTab [fieldC, bitC]) anns Tryd.f30 ((Tryd.f30.body).getD .skip) [.val (.one (.int .u32 (.tm w)))] [] r) := by
  exact ⟨_, List.mem_cons_self, trivial, fun hn => ⟨trivial, dec2C_p0 w hn⟩⟩
theorem dec2C_ok : dec2C.ok Tryd.prog GTab := by
  refine con_ok (cs := [fieldC, bitC]) (body := (Tryd.f30.body).getD .skip) ?_ Tryd.func30 rfl ?_
  · intro c h
    simp only [List.mem_cons, List.not_mem_nil, or_false] at h
    rcases h with rfl | rfl
    · exact fieldC_ok
    · exact bitC_ok
  · intro args h l hl
    unfold dec2C at hl
    dsimp only at hl
    split at hl
    · cases hl
      exact dec2C_ch _
    · cases hl
noncomputable def leafC : Con := ⟨78, fun args h => match args, h with
  | [.val (.agg [.int .i64 (.tm ap), .int .u32 (.tm bi), .bool (.tm ng), .bool (.tm xn)])], [] => some [⟨none, none, .det (.val (.one (.bool (.tm (leafOk ap bi))))) ([])⟩]
  | _, _ => none, true⟩
theorem leafC_p0 (ap bi : Int) (ng xn : Bool) : ∃ anns, fnVC Tryd.prog GTab (callOf Tryd.prog GTab []) anns Tryd.f78 ((Tryd.f78.body).getD .skip) [.val (.agg [.int .i64 (.tm ap), .int .u32 (.tm bi), .bool (.tm ng), .bool (.tm xn)])] [] ⟨none, none, .det (.val (.one (.bool (.tm (leafOk ap bi))))) ([])⟩ := by
  refine ⟨⟨[], [], [], [], [], [], []⟩, ?_⟩
  rw [show fnVC Tryd.prog GTab (callOf Tryd.prog GTab []) ⟨[], [], [], [], [], [], []⟩ Tryd.f78 ((Tryd.f78.body).getD .skip) [.val (.agg [.int .i64 (.tm ap), .int .u32 (.tm bi), .bool (.tm ng), .bool (.tm xn)])] [] ⟨none, none, .det (.val (.one (.bool (.tm (leafOk ap bi))))) ([])⟩ = (((!decide (ap < (0 : Int))) = true → (!decide (ap < (0 : Int))) = true) ∧ ((!decide (ap < (0 : Int))) = true → (!decide (ap < (0 : Int))) = true) ∧ ((!decide (ap < (0 : Int))) = true → (!decide (ap < (0 : Int))) = true) ∧ ((bif !decide (ap < (0 : Int)) then !decide ((7 : Int) < ap) else false) = true → (bif !decide (ap < (0 : Int)) then !decide ((7 : Int) < ap) else false) = true) ∧ ((bif !decide (ap < (0 : Int)) then !decide ((7 : Int) < ap) else false) = true → (bif !decide (ap < (0 : Int)) then !decide ((7 : Int) < ap) else false) = true) ∧ ((bif !decide (ap < (0 : Int)) then !decide ((7 : Int) < ap) else false) = true → (bif !decide (ap < (0 : Int)) then !decide ((7 : Int) < ap) else false) = true) ∧ (bif bif !decide (ap < (0 : Int)) then !decide ((7 : Int) < ap) else false then !decide ((63 : Int) < bi) else false) = leafOk ap bi) from by kernel_rfl]
  simp only [leafOk, dle]
  cases decide (ap < 0) <;> cases decide (7 < ap) <;> cases decide (63 < bi) <;> simp
theorem leafC_ch (ap bi : Int) (ng xn : Bool) : ∃ r ∈ ([⟨none, none, .det (.val (.one (.bool (.tm (leafOk ap bi))))) ([])⟩] : List Res), holdsP r.g ∧ (holdsP r.need → r.r.shaped [] ∧ ∃ anns, fnVC Tryd.prog GTab (callOf Tryd.prog GTab []) anns Tryd.f78 ((Tryd.f78.body).getD .skip) [.val (.agg [.int .i64 (.tm ap), .int .u32 (.tm bi), .bool (.tm ng), .bool (.tm xn)])] [] r) := by
  exact ⟨_, List.mem_cons_self, trivial, fun _ => ⟨trivial, leafC_p0 ap bi ng xn⟩⟩
theorem leafC_ok : leafC.ok Tryd.prog GTab := by
  refine con_ok (cs := []) (body := (Tryd.f78.body).getD .skip) ?_ Tryd.func78 rfl ?_
  · intro c h; cases h
  · intro args h l hl
    unfold leafC at hl
    dsimp only at hl
    split at hl
    · cases hl
      exact leafC_ch _ _ _ _
    · cases hl
noncomputable def placeC : Con := ⟨47, fun args h => match args, h with
  | [.val (.one (.int .u64 (.tm v))), .val (.one (.int .u64 (.tm n))), .val (.one (.int .u64 (.tm top)))], [] => some [⟨none, some (0 ≤ v ∧ v < 18446744073709551616 ∧ 0 ≤ n ∧ n < 64 ∧ 0 ≤ top ∧ top < 64), .det (.val (.one (.bool (.tm (placeOk v n.toNat top.toNat))))) ([])⟩]
  | _, _ => none, true⟩
theorem placeC_p0 (v n top : Int) (hn : 0 ≤ v ∧ v < 18446744073709551616 ∧ 0 ≤ n ∧ n < 64 ∧ 0 ≤ top ∧ top < 64) : ∃ anns, fnVC Tryd.prog GTab (callOf Tryd.prog GTab []) anns Tryd.f47 ((Tryd.f47.body).getD .skip) [.val (.one (.int .u64 (.tm v))), .val (.one (.int .u64 (.tm n))), .val (.one (.int .u64 (.tm top)))] [] ⟨none, some (0 ≤ v ∧ v < 18446744073709551616 ∧ 0 ≤ n ∧ n < 64 ∧ 0 ≤ top ∧ top < 64), .det (.val (.one (.bool (.tm (placeOk v n.toNat top.toNat))))) ([])⟩ := by
  refine ⟨⟨[], [], [], [], [], [], []⟩, ?_⟩
  rw [show fnVC Tryd.prog GTab (callOf Tryd.prog GTab []) ⟨[], [], [], [], [], [], []⟩ Tryd.f47 ((Tryd.f47.body).getD .skip) [.val (.one (.int .u64 (.tm v))), .val (.one (.int .u64 (.tm n))), .val (.one (.int .u64 (.tm top)))] [] ⟨none, some (0 ≤ v ∧ v < 18446744073709551616 ∧ 0 ≤ n ∧ n < 64 ∧ 0 ≤ top ∧ top < 64), .det (.val (.one (.bool (.tm (placeOk v n.toNat top.toNat))))) ([])⟩ = ((0 : Int) ≤ n ∧ (IntKind.u64.wrap ((1 : Int) * (↑((2 : Nat) ^ min n.toNat (64 : Nat)) : Int)) = (0 : Int) → False) ∧ ((decide (v.tmod (IntKind.u64.wrap ((1 : Int) * (↑((2 : Nat) ^ min n.toNat (64 : Nat)) : Int))) = (0 : Int)) = true → decide (v.tmod (IntKind.u64.wrap ((1 : Int) * (↑((2 : Nat) ^ min n.toNat (64 : Nat)) : Int))) = (0 : Int)) = true) ∧ (decide (v.tmod (IntKind.u64.wrap ((1 : Int) * (↑((2 : Nat) ^ min n.toNat (64 : Nat)) : Int))) = (0 : Int)) = true → (0 : Int) ≤ top)) ∧ ((decide (v.tmod (IntKind.u64.wrap ((1 : Int) * (↑((2 : Nat) ^ min n.toNat (64 : Nat)) : Int))) = (0 : Int)) = true → decide (v.tmod (IntKind.u64.wrap ((1 : Int) * (↑((2 : Nat) ^ min n.toNat (64 : Nat)) : Int))) = (0 : Int)) = true) ∧ (decide (v.tmod (IntKind.u64.wrap ((1 : Int) * (↑((2 : Nat) ^ min n.toNat (64 : Nat)) : Int))) = (0 : Int)) = true → decide (v.tmod (IntKind.u64.wrap ((1 : Int) * (↑((2 : Nat) ^ min n.toNat (64 : Nat)) : Int))) = (0 : Int)) = true)) ∧ (decide (v.tmod (IntKind.u64.wrap ((1 : Int) * (↑((2 : Nat) ^ min n.toNat (64 : Nat)) : Int))) = (0 : Int)) = true → decide (v.tmod (IntKind.u64.wrap ((1 : Int) * (↑((2 : Nat) ^ min n.toNat (64 : Nat)) : Int))) = (0 : Int)) = true) ∧ (bif decide (v.tmod (IntKind.u64.wrap ((1 : Int) * (↑((2 : Nat) ^ min n.toNat (64 : Nat)) : Int))) = (0 : Int)) then decide (v < IntKind.u64.wrap ((1 : Int) * (↑((2 : Nat) ^ min top.toNat (64 : Nat)) : Int))) else false) = placeOk v n.toNat top.toNat) from by kernel_rfl]
  obtain ⟨h0, h1, h2, h3, h4, h5⟩ := hn
  have hb : ∀ m : Int, 0 ≤ m → m < 64 → IntKind.u64.wrap (1 * ((2 ^ min m.toNat 64 : Nat) : Int)) = 2 ^ m.toNat := pow_wrap
  have hp : (0 : Int) < 2 ^ n.toNat := Int.pow_pos (by decide)
  rw [hb n h2 h3, hb top h4 h5, tmod_pos h0]
  refine ⟨h2, fun e => by omega, ⟨fun h => h, fun _ => h4⟩, ⟨fun h => h, fun h => h⟩, fun h => h, ?_⟩
  simp only [placeOk, bif_and]
theorem placeC_ch (v n top : Int) : ∃ r ∈ ([⟨none, some (0 ≤ v ∧ v < 18446744073709551616 ∧ 0 ≤ n ∧ n < 64 ∧ 0 ≤ top ∧ top < 64), .det (.val (.one (.bool (.tm (placeOk v n.toNat top.toNat))))) ([])⟩] : List Res), holdsP r.g ∧ (holdsP r.need → r.r.shaped [] ∧ ∃ anns, fnVC Tryd.prog GTab (callOf Tryd.prog GTab []) anns Tryd.f47 ((Tryd.f47.body).getD .skip) [.val (.one (.int .u64 (.tm v))), .val (.one (.int .u64 (.tm n))), .val (.one (.int .u64 (.tm top)))] [] r) := by
  exact ⟨_, List.mem_cons_self, trivial, fun hn => ⟨trivial, placeC_p0 v n top hn⟩⟩
theorem placeC_ok : placeC.ok Tryd.prog GTab := by
  refine con_ok (cs := []) (body := (Tryd.f47.body).getD .skip) ?_ Tryd.func47 rfl ?_
  · intro c h; cases h
  · intro args h l hl
    unfold placeC at hl
    dsimp only at hl
    split at hl
    · cases hl
      exact placeC_ch _ _ _
    · cases hl
noncomputable def domC : Con := ⟨48, fun args h => match args, h with
  | [.val (.one (.int .i64 (.tm d)))], [] => some [⟨none, none, .det (.val (.one (.bool (.tm (domOk d))))) ([])⟩]
  | _, _ => none, true⟩
theorem domC_p0 (d : Int) : ∃ anns, fnVC Tryd.prog GTab (callOf Tryd.prog GTab []) anns Tryd.f48 ((Tryd.f48.body).getD .skip) [.val (.one (.int .i64 (.tm d)))] [] ⟨none, none, .det (.val (.one (.bool (.tm (domOk d))))) ([])⟩ := by
  refine ⟨⟨[], [], [], [], [], [], []⟩, ?_⟩
  rw [show fnVC Tryd.prog GTab (callOf Tryd.prog GTab []) ⟨[], [], [], [], [], [], []⟩ Tryd.f48 ((Tryd.f48.body).getD .skip) [.val (.one (.int .i64 (.tm d)))] [] ⟨none, none, .det (.val (.one (.bool (.tm (domOk d))))) ([])⟩ = (((!decide (d < (0 : Int))) = true → (!decide (d < (0 : Int))) = true) ∧ ((!decide (d < (0 : Int))) = true → (!decide (d < (0 : Int))) = true) ∧ (bif !decide (d < (0 : Int)) then !decide ((15 : Int) < d) else false) = domOk d) from by kernel_rfl]
  simp only [domOk, dle]
  cases decide (d < 0) <;> cases decide (15 < d) <;> simp
theorem domC_ch (d : Int) : ∃ r ∈ ([⟨none, none, .det (.val (.one (.bool (.tm (domOk d))))) ([])⟩] : List Res), holdsP r.g ∧ (holdsP r.need → r.r.shaped [] ∧ ∃ anns, fnVC Tryd.prog GTab (callOf Tryd.prog GTab []) anns Tryd.f48 ((Tryd.f48.body).getD .skip) [.val (.one (.int .i64 (.tm d)))] [] r) := by
  exact ⟨_, List.mem_cons_self, trivial, fun _ => ⟨trivial, domC_p0 d⟩⟩
theorem domC_ok : domC.ok Tryd.prog GTab := by
  refine con_ok (cs := []) (body := (Tryd.f48.body).getD .skip) ?_ Tryd.func48 rfl ?_
  · intro c h; cases h
  · intro args h l hl
    unfold domC at hl
    dsimp only at hl
    split at hl
    · cases hl
      exact domC_ch _
    · cases hl
noncomputable def blockC : Con := ⟨49, fun args h => match args, h with
  | [.val (.agg [.int .i64 (.tm kd), .int .u64 (.tm bs), .int .i64 (.tm dm), .bool (.tm ns), .int .i64 (.tm ap), .int .u32 (.tm bi), .bool (.tm ng), .bool (.tm xn)]), .val (.one (.int .i64 (.tm s)))], [] => some [⟨none, some (0 ≤ bs ∧ bs < 18446744073709551616 ∧ 0 ≤ bi ∧ bi < 4294967296 ∧ 1 ≤ s ∧ s ≤ 4), .det (.val (.one (.bool (.tm (placeOk bs (shiftS s) (if s = 4 then 40 else 32) && leafOk ap bi))))) ([])⟩]
  | _, _ => none, true⟩
theorem blockC_p0 (kd bs dm ap bi : Int) (ns ng xn : Bool) (s : Int) (hn : 0 ≤ bs ∧ bs < 18446744073709551616 ∧ 0 ≤ bi ∧ bi < 4294967296 ∧ 1 ≤ s ∧ s ≤ 4) : ∃ anns, fnVC Tryd.prog GTab (callOf Tryd.prog GTab [placeC, leafC]) anns Tryd.f49 ((Tryd.f49.body).getD .skip) [.val (.agg [.int .i64 (.tm kd), .int .u64 (.tm bs), .int .i64 (.tm dm), .bool (.tm ns), .int .i64 (.tm ap), .int .u32 (.tm bi), .bool (.tm ng), .bool (.tm xn)]), .val (.one (.int .i64 (.tm s)))] [] ⟨none, some (0 ≤ bs ∧ bs < 18446744073709551616 ∧ 0 ≤ bi ∧ bi < 4294967296 ∧ 1 ≤ s ∧ s ≤ 4), .det (.val (.one (.bool (.tm (placeOk bs (shiftS s) (if s = 4 then 40 else 32) && leafOk ap bi))))) ([])⟩ := by
  refine ⟨⟨[], [], [], [], [], [], []⟩, ?_⟩
  rw [show fnVC Tryd.prog GTab (callOf Tryd.prog GTab [placeC, leafC]) ⟨[], [], [], [], [], [], []⟩ Tryd.f49 ((Tryd.f49.body).getD .skip) [.val (.agg [.int .i64 (.tm kd), .int .u64 (.tm bs), .int .i64 (.tm dm), .bool (.tm ns), .int .i64 (.tm ap), .int .u32 (.tm bi), .bool (.tm ng), .bool (.tm xn)]), .val (.one (.int .i64 (.tm s)))] [] ⟨none, some (0 ≤ bs ∧ bs < 18446744073709551616 ∧ 0 ≤ bi ∧ bi < 4294967296 ∧ 1 ≤ s ∧ s ≤ 4), .det (.val (.one (.bool (.tm (placeOk bs (shiftS s) (if s = 4 then 40 else 32) && leafOk ap bi))))) ([])⟩ = ((decide (s = (4 : Int)) = true → (s = (↑(nat_lit 0) : Int) → ((0 : Int) ≤ bs ∧ bs < (18446744073709551616 : Int) ∧ (0 : Int) ≤ (0 : Int) ∧ (0 : Int) < (64 : Int) ∧ (0 : Int) ≤ (40 : Int) ∧ (40 : Int) < (64 : Int)) ∧ (placeOk bs (0 : Nat) (40 : Nat) = true → placeOk bs (0 : Nat) (40 : Nat) = true) ∧ (placeOk bs (0 : Nat) (40 : Nat) = true → placeOk bs (0 : Nat) (40 : Nat) = true) ∧ (placeOk bs (0 : Nat) (40 : Nat) = true → placeOk bs (0 : Nat) (40 : Nat) = true) ∧ (bif placeOk bs (0 : Nat) (40 : Nat) then leafOk ap bi else false) = (placeOk bs (shiftS s) (if s = (4 : Int) then (40 : Nat) else (32 : Nat)) && leafOk ap bi)) ∧ (s = (↑(nat_lit 1) : Int) → ((0 : Int) ≤ bs ∧ bs < (18446744073709551616 : Int) ∧ (0 : Int) ≤ (12 : Int) ∧ (12 : Int) < (64 : Int) ∧ (0 : Int) ≤ (40 : Int) ∧ (40 : Int) < (64 : Int)) ∧ (placeOk bs (12 : Nat) (40 : Nat) = true → placeOk bs (12 : Nat) (40 : Nat) = true) ∧ (placeOk bs (12 : Nat) (40 : Nat) = true → placeOk bs (12 : Nat) (40 : Nat) = true) ∧ (placeOk bs (12 : Nat) (40 : Nat) = true → placeOk bs (12 : Nat) (40 : Nat) = true) ∧ (bif placeOk bs (12 : Nat) (40 : Nat) then leafOk ap bi else false) = (placeOk bs (shiftS s) (if s = (4 : Int) then (40 : Nat) else (32 : Nat)) && leafOk ap bi)) ∧ (s = (↑(nat_lit 2) : Int) → ((0 : Int) ≤ bs ∧ bs < (18446744073709551616 : Int) ∧ (0 : Int) ≤ (16 : Int) ∧ (16 : Int) < (64 : Int) ∧ (0 : Int) ≤ (40 : Int) ∧ (40 : Int) < (64 : Int)) ∧ (placeOk bs (16 : Nat) (40 : Nat) = true → placeOk bs (16 : Nat) (40 : Nat) = true) ∧ (placeOk bs (16 : Nat) (40 : Nat) = true → placeOk bs (16 : Nat) (40 : Nat) = true) ∧ (placeOk bs (16 : Nat) (40 : Nat) = true → placeOk bs (16 : Nat) (40 : Nat) = true) ∧ (bif placeOk bs (16 : Nat) (40 : Nat) then leafOk ap bi else false) = (placeOk bs (shiftS s) (if s = (4 : Int) then (40 : Nat) else (32 : Nat)) && leafOk ap bi)) ∧ (s = (↑(nat_lit 3) : Int) → ((0 : Int) ≤ bs ∧ bs < (18446744073709551616 : Int) ∧ (0 : Int) ≤ (20 : Int) ∧ (20 : Int) < (64 : Int) ∧ (0 : Int) ≤ (40 : Int) ∧ (40 : Int) < (64 : Int)) ∧ (placeOk bs (20 : Nat) (40 : Nat) = true → placeOk bs (20 : Nat) (40 : Nat) = true) ∧ (placeOk bs (20 : Nat) (40 : Nat) = true → placeOk bs (20 : Nat) (40 : Nat) = true) ∧ (placeOk bs (20 : Nat) (40 : Nat) = true → placeOk bs (20 : Nat) (40 : Nat) = true) ∧ (bif placeOk bs (20 : Nat) (40 : Nat) then leafOk ap bi else false) = (placeOk bs (shiftS s) (if s = (4 : Int) then (40 : Nat) else (32 : Nat)) && leafOk ap bi)) ∧ (s = (↑(nat_lit 4) : Int) → ((0 : Int) ≤ bs ∧ bs < (18446744073709551616 : Int) ∧ (0 : Int) ≤ (24 : Int) ∧ (24 : Int) < (64 : Int) ∧ (0 : Int) ≤ (40 : Int) ∧ (40 : Int) < (64 : Int)) ∧ (placeOk bs (24 : Nat) (40 : Nat) = true → placeOk bs (24 : Nat) (40 : Nat) = true) ∧ (placeOk bs (24 : Nat) (40 : Nat) = true → placeOk bs (24 : Nat) (40 : Nat) = true) ∧ (placeOk bs (24 : Nat) (40 : Nat) = true → placeOk bs (24 : Nat) (40 : Nat) = true) ∧ (bif placeOk bs (24 : Nat) (40 : Nat) then leafOk ap bi else false) = (placeOk bs (shiftS s) (if s = (4 : Int) then (40 : Nat) else (32 : Nat)) && leafOk ap bi)) ∧ (((0 : Int) ≤ s ∧ s < (↑(5 : Nat) : Int) → False) → False ∧ False)) ∧ (decide (s = (4 : Int)) = false → (s = (↑(nat_lit 0) : Int) → ((0 : Int) ≤ bs ∧ bs < (18446744073709551616 : Int) ∧ (0 : Int) ≤ (0 : Int) ∧ (0 : Int) < (64 : Int) ∧ (0 : Int) ≤ (32 : Int) ∧ (32 : Int) < (64 : Int)) ∧ (placeOk bs (0 : Nat) (32 : Nat) = true → placeOk bs (0 : Nat) (32 : Nat) = true) ∧ (placeOk bs (0 : Nat) (32 : Nat) = true → placeOk bs (0 : Nat) (32 : Nat) = true) ∧ (placeOk bs (0 : Nat) (32 : Nat) = true → placeOk bs (0 : Nat) (32 : Nat) = true) ∧ (bif placeOk bs (0 : Nat) (32 : Nat) then leafOk ap bi else false) = (placeOk bs (shiftS s) (if s = (4 : Int) then (40 : Nat) else (32 : Nat)) && leafOk ap bi)) ∧ (s = (↑(nat_lit 1) : Int) → ((0 : Int) ≤ bs ∧ bs < (18446744073709551616 : Int) ∧ (0 : Int) ≤ (12 : Int) ∧ (12 : Int) < (64 : Int) ∧ (0 : Int) ≤ (32 : Int) ∧ (32 : Int) < (64 : Int)) ∧ (placeOk bs (12 : Nat) (32 : Nat) = true → placeOk bs (12 : Nat) (32 : Nat) = true) ∧ (placeOk bs (12 : Nat) (32 : Nat) = true → placeOk bs (12 : Nat) (32 : Nat) = true) ∧ (placeOk bs (12 : Nat) (32 : Nat) = true → placeOk bs (12 : Nat) (32 : Nat) = true) ∧ (bif placeOk bs (12 : Nat) (32 : Nat) then leafOk ap bi else false) = (placeOk bs (shiftS s) (if s = (4 : Int) then (40 : Nat) else (32 : Nat)) && leafOk ap bi)) ∧ (s = (↑(nat_lit 2) : Int) → ((0 : Int) ≤ bs ∧ bs < (18446744073709551616 : Int) ∧ (0 : Int) ≤ (16 : Int) ∧ (16 : Int) < (64 : Int) ∧ (0 : Int) ≤ (32 : Int) ∧ (32 : Int) < (64 : Int)) ∧ (placeOk bs (16 : Nat) (32 : Nat) = true → placeOk bs (16 : Nat) (32 : Nat) = true) ∧ (placeOk bs (16 : Nat) (32 : Nat) = true → placeOk bs (16 : Nat) (32 : Nat) = true) ∧ (placeOk bs (16 : Nat) (32 : Nat) = true → placeOk bs (16 : Nat) (32 : Nat) = true) ∧ (bif placeOk bs (16 : Nat) (32 : Nat) then leafOk ap bi else false) = (placeOk bs (shiftS s) (if s = (4 : Int) then (40 : Nat) else (32 : Nat)) && leafOk ap bi)) ∧ (s = (↑(nat_lit 3) : Int) → ((0 : Int) ≤ bs ∧ bs < (18446744073709551616 : Int) ∧ (0 : Int) ≤ (20 : Int) ∧ (20 : Int) < (64 : Int) ∧ (0 : Int) ≤ (32 : Int) ∧ (32 : Int) < (64 : Int)) ∧ (placeOk bs (20 : Nat) (32 : Nat) = true → placeOk bs (20 : Nat) (32 : Nat) = true) ∧ (placeOk bs (20 : Nat) (32 : Nat) = true → placeOk bs (20 : Nat) (32 : Nat) = true) ∧ (placeOk bs (20 : Nat) (32 : Nat) = true → placeOk bs (20 : Nat) (32 : Nat) = true) ∧ (bif placeOk bs (20 : Nat) (32 : Nat) then leafOk ap bi else false) = (placeOk bs (shiftS s) (if s = (4 : Int) then (40 : Nat) else (32 : Nat)) && leafOk ap bi)) ∧ (s = (↑(nat_lit 4) : Int) → ((0 : Int) ≤ bs ∧ bs < (18446744073709551616 : Int) ∧ (0 : Int) ≤ (24 : Int) ∧ (24 : Int) < (64 : Int) ∧ (0 : Int) ≤ (32 : Int) ∧ (32 : Int) < (64 : Int)) ∧ (placeOk bs (24 : Nat) (32 : Nat) = true → placeOk bs (24 : Nat) (32 : Nat) = true) ∧ (placeOk bs (24 : Nat) (32 : Nat) = true → placeOk bs (24 : Nat) (32 : Nat) = true) ∧ (placeOk bs (24 : Nat) (32 : Nat) = true → placeOk bs (24 : Nat) (32 : Nat) = true) ∧ (bif placeOk bs (24 : Nat) (32 : Nat) then leafOk ap bi else false) = (placeOk bs (shiftS s) (if s = (4 : Int) then (40 : Nat) else (32 : Nat)) && leafOk ap bi)) ∧ (((0 : Int) ≤ s ∧ s < (↑(5 : Nat) : Int) → False) → False ∧ False))) from by kernel_rfl]
  obtain ⟨h0, h1, h2, h3, h4, h5⟩ := hn
  have hs : s = 1 ∨ s = 2 ∨ s = 3 ∨ s = 4 := by omega
  rcases hs with rfl | rfl | rfl | rfl <;> simp [h0, h1, shiftS, bif_and]
theorem blockC_ch (kd bs dm ap bi : Int) (ns ng xn : Bool) (s : Int) : ∃ r ∈ ([⟨none, some (0 ≤ bs ∧ bs < 18446744073709551616 ∧ 0 ≤ bi ∧ bi < 4294967296 ∧ 1 ≤ s ∧ s ≤ 4), .det (.val (.one (.bool (.tm (placeOk bs (shiftS s) (if s = 4 then 40 else 32) && leafOk ap bi))))) ([])⟩] : List Res), holdsP r.g ∧ (holdsP r.need → r.r.shaped [] ∧ ∃ anns, fnVC Tryd.prog GTab (callOf Tryd.prog GTab [placeC, leafC]) anns Tryd.f49 ((Tryd.f49.body).getD .skip) [.val (.agg [.int .i64 (.tm kd), .int .u64 (.tm bs), .int .i64 (.tm dm), .bool (.tm ns), .int .i64 (.tm ap), .int .u32 (.tm bi), .bool (.tm ng), .bool (.tm xn)]), .val (.one (.int .i64 (.tm s)))] [] r) := by
  exact ⟨_, List.mem_cons_self, trivial, fun hn => ⟨trivial, blockC_p0 kd bs dm ap bi ns ng xn s hn⟩⟩
theorem blockC_ok : blockC.ok Tryd.prog GTab := by
  refine con_ok (cs := [placeC, leafC]) (body := (Tryd.f49.body).getD .skip) ?_ Tryd.func49 rfl ?_
  · intro c h
    simp only [List.mem_cons, List.not_mem_nil, or_false] at h
    rcases h with rfl | rfl
    · exact placeC_ok
    · exact leafC_ok
  · intro args h l hl
    unfold blockC at hl
    dsimp only at hl
    split at hl
    · cases hl
      exact blockC_ch _ _ _ _ _ _ _ _ _
    · cases hl
noncomputable def says1C : Con := ⟨53, fun args h => match args, h with
  | [.val (.agg [.int .i64 (.tm kd), .int .u64 (.tm bs), .int .i64 (.tm dm), .bool (.tm ns), .int .i64 (.tm ap), .int .u32 (.tm bi), .bool (.tm ng), .bool (.tm xn)])], [] => some [⟨none, some (0 ≤ bs ∧ bs < 18446744073709551616 ∧ 0 ≤ bi ∧ bi < 4294967296), .det (.val (.one (.bool (.tm (says1 (Ent.mk kd bs dm ns ap bi ng xn)))))) ([])⟩]
  | _, _ => none, true⟩
theorem says1C_p0 (kd bs dm ap bi : Int) (ns ng xn : Bool) (hn : 0 ≤ bs ∧ bs < 18446744073709551616 ∧ 0 ≤ bi ∧ bi < 4294967296) : ∃ anns, fnVC Tryd.prog GTab (callOf Tryd.prog GTab [placeC, domC, blockC]) anns Tryd.f53 ((Tryd.f53.body).getD .skip) [.val (.agg [.int .i64 (.tm kd), .int .u64 (.tm bs), .int .i64 (.tm dm), .bool (.tm ns), .int .i64 (.tm ap), .int .u32 (.tm bi), .bool (.tm ng), .bool (.tm xn)])] [] ⟨none, some (0 ≤ bs ∧ bs < 18446744073709551616 ∧ 0 ≤ bi ∧ bi < 4294967296), .det (.val (.one (.bool (.tm (says1 (Ent.mk kd bs dm ns ap bi ng xn)))))) ([])⟩ := by
  refine ⟨⟨[], [], [], [], [], [], []⟩, ?_⟩
  rw [show fnVC Tryd.prog GTab (callOf Tryd.prog GTab [placeC, domC, blockC]) ⟨[], [], [], [], [], [], []⟩ Tryd.f53 ((Tryd.f53.body).getD .skip) [.val (.agg [.int .i64 (.tm kd), .int .u64 (.tm bs), .int .i64 (.tm dm), .bool (.tm ns), .int .i64 (.tm ap), .int .u32 (.tm bi), .bool (.tm ng), .bool (.tm xn)])] [] ⟨none, some (0 ≤ bs ∧ bs < 18446744073709551616 ∧ 0 ≤ bi ∧ bi < 4294967296), .det (.val (.one (.bool (.tm (says1 (Ent.mk kd bs dm ns ap bi ng xn)))))) ([])⟩ = ((decide (kd = (0 : Int)) = true → (decide (kd = (0 : Int)) && (decide (bs = (0 : Int)) && (decide (dm = (0 : Int)) && (!ns && (decide (ap = (0 : Int)) && (decide (bi = (0 : Int)) && (!ng && !xn))))))) = says1 (Ent.mk kd bs dm ns ap bi ng xn)) ∧ (decide (kd = (0 : Int)) = false → (decide (kd = (1 : Int)) = true → ((0 : Int) ≤ bs ∧ bs < (18446744073709551616 : Int) ∧ (0 : Int) ≤ (10 : Int) ∧ (10 : Int) < (64 : Int) ∧ (0 : Int) ≤ (32 : Int) ∧ (32 : Int) < (64 : Int)) ∧ (placeOk bs (10 : Nat) (32 : Nat) = true → placeOk bs (10 : Nat) (32 : Nat) = true) ∧ (placeOk bs (10 : Nat) (32 : Nat) = true → placeOk bs (10 : Nat) (32 : Nat) = true) ∧ (placeOk bs (10 : Nat) (32 : Nat) = true → placeOk bs (10 : Nat) (32 : Nat) = true) ∧ ((bif placeOk bs (10 : Nat) (32 : Nat) then domOk dm else false) = true → (bif placeOk bs (10 : Nat) (32 : Nat) then domOk dm else false) = true) ∧ (((bif placeOk bs (10 : Nat) (32 : Nat) then domOk dm else false) = true → (bif placeOk bs (10 : Nat) (32 : Nat) then domOk dm else false) = true) ∧ ((bif placeOk bs (10 : Nat) (32 : Nat) then domOk dm else false) = true → (bif placeOk bs (10 : Nat) (32 : Nat) then domOk dm else false) = true)) ∧ ((bif placeOk bs (10 : Nat) (32 : Nat) then domOk dm else false) = true → (bif placeOk bs (10 : Nat) (32 : Nat) then domOk dm else false) = true) ∧ (bif bif placeOk bs (10 : Nat) (32 : Nat) then domOk dm else false then decide (ap = (0 : Int)) && (decide (bi = (0 : Int)) && (!ng && !xn)) else false) = says1 (Ent.mk kd bs dm ns ap bi ng xn)) ∧ (decide (kd = (1 : Int)) = false → (decide (kd = (2 : Int)) = true → ((0 : Int) ≤ bs ∧ bs < (18446744073709551616 : Int) ∧ (0 : Int) ≤ bi ∧ bi < (4294967296 : Int) ∧ (1 : Int) ≤ (3 : Int) ∧ (3 : Int) ≤ (4 : Int)) ∧ ((placeOk bs (20 : Nat) (32 : Nat) && leafOk ap bi) = true → (placeOk bs (20 : Nat) (32 : Nat) && leafOk ap bi) = true) ∧ ((placeOk bs (20 : Nat) (32 : Nat) && leafOk ap bi) = true → (placeOk bs (20 : Nat) (32 : Nat) && leafOk ap bi) = true) ∧ ((placeOk bs (20 : Nat) (32 : Nat) && leafOk ap bi) = true → (placeOk bs (20 : Nat) (32 : Nat) && leafOk ap bi) = true) ∧ (bif placeOk bs (20 : Nat) (32 : Nat) && leafOk ap bi then domOk dm else false) = says1 (Ent.mk kd bs dm ns ap bi ng xn)) ∧ (decide (kd = (2 : Int)) = false → (decide (kd = (3 : Int)) = true → ((0 : Int) ≤ bs ∧ bs < (18446744073709551616 : Int) ∧ (0 : Int) ≤ bi ∧ bi < (4294967296 : Int) ∧ (1 : Int) ≤ (4 : Int) ∧ (4 : Int) ≤ (4 : Int)) ∧ ((placeOk bs (24 : Nat) (40 : Nat) && leafOk ap bi) = true → (placeOk bs (24 : Nat) (40 : Nat) && leafOk ap bi) = true) ∧ ((placeOk bs (24 : Nat) (40 : Nat) && leafOk ap bi) = true → (placeOk bs (24 : Nat) (40 : Nat) && leafOk ap bi) = true) ∧ ((placeOk bs (24 : Nat) (40 : Nat) && leafOk ap bi) = true → (placeOk bs (24 : Nat) (40 : Nat) && leafOk ap bi) = true) ∧ (bif placeOk bs (24 : Nat) (40 : Nat) && leafOk ap bi then decide (dm = (0 : Int)) else false) = says1 (Ent.mk kd bs dm ns ap bi ng xn)) ∧ (decide (kd = (3 : Int)) = false → false = says1 (Ent.mk kd bs dm ns ap bi ng xn)))))) from by kernel_rfl]
  obtain ⟨h0, h1, h2, h3⟩ := hn
  by_cases k0 : kd = 0
  · subst k0; simp [says1, Bool.and_assoc]
  by_cases k1 : kd = 1
  · subst k1; simp [says1, bif_and, h0, h1, Bool.and_assoc]
  by_cases k2 : kd = 2
  · subst k2; simp [says1, bif_and, h0, h1, h2, h3, Bool.and_assoc]
  by_cases k3 : kd = 3
  · subst k3; simp [says1, bif_and, h0, h1, h2, h3, Bool.and_assoc]
  simp [says1, k0, k1, k2, k3]
theorem says1C_ch (kd bs dm ap bi : Int) (ns ng xn : Bool) : ∃ r ∈ ([⟨none, some (0 ≤ bs ∧ bs < 18446744073709551616 ∧ 0 ≤ bi ∧ bi < 4294967296), .det (.val (.one (.bool (.tm (says1 (Ent.mk kd bs dm ns ap bi ng xn)))))) ([])⟩] : List Res), holdsP r.g ∧ (holdsP r.need → r.r.shaped [] ∧ ∃ anns, fnVC Tryd.prog GTab (callOf Tryd.prog GTab [placeC, domC, blockC]) anns Tryd.f53 ((Tryd.f53.body).getD .skip) [.val (.agg [.int .i64 (.tm kd), .int .u64 (.tm bs), .int .i64 (.tm dm), .bool (.tm ns), .int .i64 (.tm ap), .int .u32 (.tm bi), .bool (.tm ng), .bool (.tm xn)])] [] r) := by
  exact ⟨_, List.mem_cons_self, trivial, fun hn => ⟨trivial, says1C_p0 kd bs dm ap bi ns ng xn hn⟩⟩
theorem says1C_ok : says1C.ok Tryd.prog GTab := by
  refine con_ok (cs := [placeC, domC, blockC]) (body := (Tryd.f53.body).getD .skip) ?_ Tryd.func53 rfl ?_
  · intro c h
    simp only [List.mem_cons, List.not_mem_nil, or_false] at h
    rcases h with rfl | rfl | rfl
    · exact placeC_ok
    · exact domC_ok
    · exact blockC_ok
  · intro args h l hl
    unfold says1C at hl
    dsimp only at hl
    split at hl
    · cases hl
      exact says1C_ch _ _ _ _ _ _ _ _
    · cases hl
noncomputable def says2C : Con := ⟨54, fun args h => match args, h with
  | [.val (.agg [.int .i64 (.tm kd), .int .u64 (.tm bs), .int .i64 (.tm dm), .bool (.tm ns), .int .i64 (.tm ap), .int .u32 (.tm bi), .bool (.tm ng), .bool (.tm xn)])], [] => some [⟨none, some (0 ≤ bs ∧ bs < 18446744073709551616 ∧ 0 ≤ bi ∧ bi < 4294967296), .det (.val (.one (.bool (.tm (says2 (Ent.mk kd bs dm ns ap bi ng xn)))))) ([])⟩]
  | _, _ => none, true⟩
theorem says2C_p0 (kd bs dm ap bi : Int) (ns ng xn : Bool) (hn : 0 ≤ bs ∧ bs < 18446744073709551616 ∧ 0 ≤ bi ∧ bi < 4294967296) : ∃ anns, fnVC Tryd.prog GTab (callOf Tryd.prog GTab [blockC]) anns Tryd.f54 ((Tryd.f54.body).getD .skip) [.val (.agg [.int .i64 (.tm kd), .int .u64 (.tm bs), .int .i64 (.tm dm), .bool (.tm ns), .int .i64 (.tm ap), .int .u32 (.tm bi), .bool (.tm ng), .bool (.tm xn)])] [] ⟨none, some (0 ≤ bs ∧ bs < 18446744073709551616 ∧ 0 ≤ bi ∧ bi < 4294967296), .det (.val (.one (.bool (.tm (says2 (Ent.mk kd bs dm ns ap bi ng xn)))))) ([])⟩ := by
  refine ⟨⟨[], [], [], [], [], [], []⟩, ?_⟩
  rw [show fnVC Tryd.prog GTab (callOf Tryd.prog GTab [blockC]) ⟨[], [], [], [], [], [], []⟩ Tryd.f54 ((Tryd.f54.body).getD .skip) [.val (.agg [.int .i64 (.tm kd), .int .u64 (.tm bs), .int .i64 (.tm dm), .bool (.tm ns), .int .i64 (.tm ap), .int .u32 (.tm bi), .bool (.tm ng), .bool (.tm xn)])] [] ⟨none, some (0 ≤ bs ∧ bs < 18446744073709551616 ∧ 0 ≤ bi ∧ bi < 4294967296), .det (.val (.one (.bool (.tm (says2 (Ent.mk kd bs dm ns ap bi ng xn)))))) ([])⟩ = ((decide (kd = (0 : Int)) = true → (decide (kd = (0 : Int)) && (decide (bs = (0 : Int)) && (decide (dm = (0 : Int)) && (!ns && (decide (ap = (0 : Int)) && (decide (bi = (0 : Int)) && (!ng && !xn))))))) = says2 (Ent.mk kd bs dm ns ap bi ng xn)) ∧ (decide (kd = (0 : Int)) = false → (decide (kd = (4 : Int)) = true → ((0 : Int) ≤ bs ∧ bs < (18446744073709551616 : Int) ∧ (0 : Int) ≤ bi ∧ bi < (4294967296 : Int) ∧ (1 : Int) ≤ (2 : Int) ∧ (2 : Int) ≤ (4 : Int)) ∧ ((placeOk bs (16 : Nat) (32 : Nat) && leafOk ap bi) = true → (placeOk bs (16 : Nat) (32 : Nat) && leafOk ap bi) = true) ∧ ((placeOk bs (16 : Nat) (32 : Nat) && leafOk ap bi) = true → (placeOk bs (16 : Nat) (32 : Nat) && leafOk ap bi) = true) ∧ ((placeOk bs (16 : Nat) (32 : Nat) && leafOk ap bi) = true → (placeOk bs (16 : Nat) (32 : Nat) && leafOk ap bi) = true) ∧ ((bif placeOk bs (16 : Nat) (32 : Nat) && leafOk ap bi then decide (dm = (0 : Int)) else false) = true → (bif placeOk bs (16 : Nat) (32 : Nat) && leafOk ap bi then decide (dm = (0 : Int)) else false) = true) ∧ ((bif placeOk bs (16 : Nat) (32 : Nat) && leafOk ap bi then decide (dm = (0 : Int)) else false) = true → (bif placeOk bs (16 : Nat) (32 : Nat) && leafOk ap bi then decide (dm = (0 : Int)) else false) = true) ∧ ((bif placeOk bs (16 : Nat) (32 : Nat) && leafOk ap bi then decide (dm = (0 : Int)) else false) = true → (bif placeOk bs (16 : Nat) (32 : Nat) && leafOk ap bi then decide (dm = (0 : Int)) else false) = true) ∧ (bif bif placeOk bs (16 : Nat) (32 : Nat) && leafOk ap bi then decide (dm = (0 : Int)) else false then !ns else false) = says2 (Ent.mk kd bs dm ns ap bi ng xn)) ∧ (decide (kd = (4 : Int)) = false → (decide (kd = (5 : Int)) = true → ((0 : Int) ≤ bs ∧ bs < (18446744073709551616 : Int) ∧ (0 : Int) ≤ bi ∧ bi < (4294967296 : Int) ∧ (1 : Int) ≤ (1 : Int) ∧ (1 : Int) ≤ (4 : Int)) ∧ ((placeOk bs (12 : Nat) (32 : Nat) && leafOk ap bi) = true → (placeOk bs (12 : Nat) (32 : Nat) && leafOk ap bi) = true) ∧ ((placeOk bs (12 : Nat) (32 : Nat) && leafOk ap bi) = true → (placeOk bs (12 : Nat) (32 : Nat) && leafOk ap bi) = true) ∧ ((placeOk bs (12 : Nat) (32 : Nat) && leafOk ap bi) = true → (placeOk bs (12 : Nat) (32 : Nat) && leafOk ap bi) = true) ∧ ((bif placeOk bs (12 : Nat) (32 : Nat) && leafOk ap bi then decide (dm = (0 : Int)) else false) = true → (bif placeOk bs (12 : Nat) (32 : Nat) && leafOk ap bi then decide (dm = (0 : Int)) else false) = true) ∧ ((bif placeOk bs (12 : Nat) (32 : Nat) && leafOk ap bi then decide (dm = (0 : Int)) else false) = true → (bif placeOk bs (12 : Nat) (32 : Nat) && leafOk ap bi then decide (dm = (0 : Int)) else false) = true) ∧ ((bif placeOk bs (12 : Nat) (32 : Nat) && leafOk ap bi then decide (dm = (0 : Int)) else false) = true → (bif placeOk bs (12 : Nat) (32 : Nat) && leafOk ap bi then decide (dm = (0 : Int)) else false) = true) ∧ (bif bif placeOk bs (12 : Nat) (32 : Nat) && leafOk ap bi then decide (dm = (0 : Int)) else false then !ns else false) = says2 (Ent.mk kd bs dm ns ap bi ng xn)) ∧ (decide (kd = (5 : Int)) = false → false = says2 (Ent.mk kd bs dm ns ap bi ng xn))))) from by kernel_rfl]
  obtain ⟨h0, h1, h2, h3⟩ := hn
  by_cases k0 : kd = 0
  · subst k0; simp [says2, Bool.and_assoc]
  by_cases k1 : kd = 4
  · subst k1; simp [says2, bif_and, h0, h1, h2, h3, Bool.and_assoc]
  by_cases k2 : kd = 5
  · subst k2; simp [says2, bif_and, h0, h1, h2, h3, Bool.and_assoc]
  simp [says2, k0, k1, k2]
theorem says2C_ch (kd bs dm ap bi : Int) (ns ng xn : Bool) : ∃ r ∈ ([⟨none, some (0 ≤ bs ∧ bs < 18446744073709551616 ∧ 0 ≤ bi ∧ bi < 4294967296), .det (.val (.one (.bool (.tm (says2 (Ent.mk kd bs dm ns ap bi ng xn)))))) ([])⟩] : List Res), holdsP r.g ∧ (holdsP r.need → r.r.shaped [] ∧ ∃ anns, fnVC Tryd.prog GTab (callOf Tryd.prog GTab [blockC]) anns Tryd.f54 ((Tryd.f54.body).getD .skip) [.val (.agg [.int .i64 (.tm kd), .int .u64 (.tm bs), .int .i64 (.tm dm), .bool (.tm ns), .int .i64 (.tm ap), .int .u32 (.tm bi), .bool (.tm ng), .bool (.tm xn)])] [] r) := by
  exact ⟨_, List.mem_cons_self, trivial, fun hn => ⟨trivial, says2C_p0 kd bs dm ap bi ns ng xn hn⟩⟩
theorem says2C_ok : says2C.ok Tryd.prog GTab := by
  refine con_ok (cs := [blockC]) (body := (Tryd.f54.body).getD .skip) ?_ Tryd.func54 rfl ?_
  · intro c h
    simp only [List.mem_cons, List.not_mem_nil, or_false] at h
    rcases h with rfl
    · exact blockC_ok
  · intro args h l hl
    unfold says2C at hl
    dsimp only at hl
    split at hl
    · cases hl
      exact says2C_ch _ _ _ _ _ _ _ _
    · cases hl
noncomputable def transC : Con := ⟨31, fun args h => match args, h with
  | [.val (.agg [.int .i64 (.tm kd), .int .u64 (.tm bs), .int .i64 (.tm dm), .bool (.tm ns), .int .i64 (.tm ap), .int .u32 (.tm bi), .bool (.tm ng), .bool (.tm xn)]), .val (.one (.int .i64 (.tm d))), .val (.one (.int .u32 (.tm va)))], [] => some [⟨none, some (0 ≤ bs ∧ bs < 18446744073709551616 ∧ 0 ≤ bi ∧ bi < 4294967296 ∧ 0 ≤ va ∧ va < 4294967296), .det (.val (.agg [.int .i64 (.tm ((transS (Ent.mk kd bs dm ns ap bi ng xn) d va).size)), .int .u32 (.tm ((transS (Ent.mk kd bs dm ns ap bi ng xn) d va).va)), .int .u64 (.tm ((transS (Ent.mk kd bs dm ns ap bi ng xn) d va).pa)), .int .i64 (.tm ((transS (Ent.mk kd bs dm ns ap bi ng xn) d va).dom)), .int .i64 (.tm ((transS (Ent.mk kd bs dm ns ap bi ng xn) d va).ap)), .int .u32 (.tm ((transS (Ent.mk kd bs dm ns ap bi ng xn) d va).bits)), .bool (.tm ((transS (Ent.mk kd bs dm ns ap bi ng xn) d va).ng)), .bool (.tm ((transS (Ent.mk kd bs dm ns ap bi ng xn) d va).xn))])) ([])⟩]
  | _, _ => none, true⟩
theorem transC_p0 (kd bs dm ap bi : Int) (ns ng xn : Bool) (d va : Int) (hn : 0 ≤ bs ∧ bs < 18446744073709551616 ∧ 0 ≤ bi ∧ bi < 4294967296 ∧ 0 ≤ va ∧ va < 4294967296) : ∃ anns, fnVC Tryd.prog GTab (callOf Tryd.prog GTab [says1C, says2C, domC]) anns Tryd.f31 ((Tryd.f31.body).getD .skip) [.val (.agg [.int .i64 (.tm kd), .int .u64 (.tm bs), .int .i64 (.tm dm), .bool (.tm ns), .int .i64 (.tm ap), .int .u32 (.tm bi), .bool (.tm ng), .bool (.tm xn)]), .val (.one (.int .i64 (.tm d))), .val (.one (.int .u32 (.tm va)))] [] ⟨none, some (0 ≤ bs ∧ bs < 18446744073709551616 ∧ 0 ≤ bi ∧ bi < 4294967296 ∧ 0 ≤ va ∧ va < 4294967296), .det (.val (.agg [.int .i64 (.tm ((transS (Ent.mk kd bs dm ns ap bi ng xn) d va).size)), .int .u32 (.tm ((transS (Ent.mk kd bs dm ns ap bi ng xn) d va).va)), .int .u64 (.tm ((transS (Ent.mk kd bs dm ns ap bi ng xn) d va).pa)), .int .i64 (.tm ((transS (Ent.mk kd bs dm ns ap bi ng xn) d va).dom)), .int .i64 (.tm ((transS (Ent.mk kd bs dm ns ap bi ng xn) d va).ap)), .int .u32 (.tm ((transS (Ent.mk kd bs dm ns ap bi ng xn) d va).bits)), .bool (.tm ((transS (Ent.mk kd bs dm ns ap bi ng xn) d va).ng)), .bool (.tm ((transS (Ent.mk kd bs dm ns ap bi ng xn) d va).xn))])) ([])⟩ := by
  refine ⟨⟨[], [], [(24, ⟨Int, fun σ x => setT [(7, .val (.one (.int .i64 (.tm (x))))), (15, .val (.one .junk)), (16, .val (.one .junk)), (17, .val (.one .junk)), (18, .val (.one .junk)), (19, .val (.one .junk)), (20, .val (.one .junk)), (21, .val (.one .junk)), (22, .val (.one .junk)), (23, .val (.one .junk))] σ, fun σ x => x = sizeJ kd (slotI σ 11).toNat, fun x => 0⟩)], [], [], [(0, 6)], []⟩, ?_⟩
  rw [show fnVC Tryd.prog GTab (callOf Tryd.prog GTab [says1C, says2C, domC]) ⟨[], [], [(24, ⟨Int, fun σ x => setT [(7, .val (.one (.int .i64 (.tm (x))))), (15, .val (.one .junk)), (16, .val (.one .junk)), (17, .val (.one .junk)), (18, .val (.one .junk)), (19, .val (.one .junk)), (20, .val (.one .junk)), (21, .val (.one .junk)), (22, .val (.one .junk)), (23, .val (.one .junk))] σ, fun σ x => x = sizeJ kd (slotI σ 11).toNat, fun x => 0⟩)], [], [], [(0, 6)], []⟩ Tryd.f31 ((Tryd.f31.body).getD .skip) [.val (.agg [.int .i64 (.tm kd), .int .u64 (.tm bs), .int .i64 (.tm dm), .bool (.tm ns), .int .i64 (.tm ap), .int .u32 (.tm bi), .bool (.tm ng), .bool (.tm xn)]), .val (.one (.int .i64 (.tm d))), .val (.one (.int .u32 (.tm va)))] [] ⟨none, some (0 ≤ bs ∧ bs < 18446744073709551616 ∧ 0 ≤ bi ∧ bi < 4294967296 ∧ 0 ≤ va ∧ va < 4294967296), .det (.val (.agg [.int .i64 (.tm ((transS (Ent.mk kd bs dm ns ap bi ng xn) d va).size)), .int .u32 (.tm ((transS (Ent.mk kd bs dm ns ap bi ng xn) d va).va)), .int .u64 (.tm ((transS (Ent.mk kd bs dm ns ap bi ng xn) d va).pa)), .int .i64 (.tm ((transS (Ent.mk kd bs dm ns ap bi ng xn) d va).dom)), .int .i64 (.tm ((transS (Ent.mk kd bs dm ns ap bi ng xn) d va).ap)), .int .u32 (.tm ((transS (Ent.mk kd bs dm ns ap bi ng xn) d va).bits)), .bool (.tm ((transS (Ent.mk kd bs dm ns ap bi ng xn) d va).ng)), .bool (.tm ((transS (Ent.mk kd bs dm ns ap bi ng xn) d va).xn))])) ([])⟩ = ((∃ (z : Int), z = sizeJ kd (Int.ofNat (nat_lit 0)).toNat ∧ ((kd = kd ∧ bs = bs ∧ dm = dm ∧ ns = ns ∧ ap = ap ∧ bi = bi ∧ ng = ng ∧ xn = xn) ∧ d = d ∧ va = va ∧ (0 : Int) = z) ∧ kd = kd ∧ bs = bs ∧ dm = dm ∧ ns = ns ∧ ap = ap ∧ bi = bi ∧ ng = ng ∧ xn = xn) ∧ ∀ (z : Int), z = sizeJ kd (Int.ofNat (nat_lit 0)).toNat → ((decide ((5 : Int) = kd) = true → ∃ (z : Int), z = sizeJ kd (Int.ofNat (1 : Nat)).toNat ∧ ((kd = kd ∧ bs = bs ∧ dm = dm ∧ ns = ns ∧ ap = ap ∧ bi = bi ∧ ng = ng ∧ xn = xn) ∧ d = d ∧ va = va ∧ IntKind.i64.wrap ((0 : Int) + (1 : Int)) = z) ∧ kd = kd ∧ bs = bs ∧ dm = dm ∧ ns = ns ∧ ap = ap ∧ bi = bi ∧ ng = ng ∧ xn = xn) ∧ (decide ((5 : Int) = kd) = false → ∃ (z_1 : Int), z_1 = sizeJ kd (Int.ofNat (1 : Nat)).toNat ∧ ((kd = kd ∧ bs = bs ∧ dm = dm ∧ ns = ns ∧ ap = ap ∧ bi = bi ∧ ng = ng ∧ xn = xn) ∧ d = d ∧ va = va ∧ z = z_1) ∧ kd = kd ∧ bs = bs ∧ dm = dm ∧ ns = ns ∧ ap = ap ∧ bi = bi ∧ ng = ng ∧ xn = xn)) ∧ ∀ (z : Int), z = sizeJ kd (Int.ofNat (1 : Nat)).toNat → ((decide ((4 : Int) = kd) = true → ∃ (z : Int), z = sizeJ kd (Int.ofNat (2 : Nat)).toNat ∧ ((kd = kd ∧ bs = bs ∧ dm = dm ∧ ns = ns ∧ ap = ap ∧ bi = bi ∧ ng = ng ∧ xn = xn) ∧ d = d ∧ va = va ∧ IntKind.i64.wrap (IntKind.i64.wrap ((0 : Int) + (1 : Int)) + (1 : Int)) = z) ∧ kd = kd ∧ bs = bs ∧ dm = dm ∧ ns = ns ∧ ap = ap ∧ bi = bi ∧ ng = ng ∧ xn = xn) ∧ (decide ((4 : Int) = kd) = false → ∃ (z_1 : Int), z_1 = sizeJ kd (Int.ofNat (2 : Nat)).toNat ∧ ((kd = kd ∧ bs = bs ∧ dm = dm ∧ ns = ns ∧ ap = ap ∧ bi = bi ∧ ng = ng ∧ xn = xn) ∧ d = d ∧ va = va ∧ z = z_1) ∧ kd = kd ∧ bs = bs ∧ dm = dm ∧ ns = ns ∧ ap = ap ∧ bi = bi ∧ ng = ng ∧ xn = xn)) ∧ ∀ (z : Int), z = sizeJ kd (Int.ofNat (2 : Nat)).toNat → ((decide ((2 : Int) = kd) = true → ∃ (z : Int), z = sizeJ kd (Int.ofNat (3 : Nat)).toNat ∧ ((kd = kd ∧ bs = bs ∧ dm = dm ∧ ns = ns ∧ ap = ap ∧ bi = bi ∧ ng = ng ∧ xn = xn) ∧ d = d ∧ va = va ∧ IntKind.i64.wrap (IntKind.i64.wrap (IntKind.i64.wrap ((0 : Int) + (1 : Int)) + (1 : Int)) + (1 : Int)) = z) ∧ kd = kd ∧ bs = bs ∧ dm = dm ∧ ns = ns ∧ ap = ap ∧ bi = bi ∧ ng = ng ∧ xn = xn) ∧ (decide ((2 : Int) = kd) = false → ∃ (z_1 : Int), z_1 = sizeJ kd (Int.ofNat (3 : Nat)).toNat ∧ ((kd = kd ∧ bs = bs ∧ dm = dm ∧ ns = ns ∧ ap = ap ∧ bi = bi ∧ ng = ng ∧ xn = xn) ∧ d = d ∧ va = va ∧ z = z_1) ∧ kd = kd ∧ bs = bs ∧ dm = dm ∧ ns = ns ∧ ap = ap ∧ bi = bi ∧ ng = ng ∧ xn = xn)) ∧ ∀ (z : Int), z = sizeJ kd (Int.ofNat (3 : Nat)).toNat → ((decide ((3 : Int) = kd) = true → ∃ (z : Int), z = sizeJ kd (Int.ofNat (4 : Nat)).toNat ∧ ((kd = kd ∧ bs = bs ∧ dm = dm ∧ ns = ns ∧ ap = ap ∧ bi = bi ∧ ng = ng ∧ xn = xn) ∧ d = d ∧ va = va ∧ IntKind.i64.wrap (IntKind.i64.wrap (IntKind.i64.wrap (IntKind.i64.wrap ((0 : Int) + (1 : Int)) + (1 : Int)) + (1 : Int)) + (1 : Int)) = z) ∧ kd = kd ∧ bs = bs ∧ dm = dm ∧ ns = ns ∧ ap = ap ∧ bi = bi ∧ ng = ng ∧ xn = xn) ∧ (decide ((3 : Int) = kd) = false → ∃ (z_1 : Int), z_1 = sizeJ kd (Int.ofNat (4 : Nat)).toNat ∧ ((kd = kd ∧ bs = bs ∧ dm = dm ∧ ns = ns ∧ ap = ap ∧ bi = bi ∧ ng = ng ∧ xn = xn) ∧ d = d ∧ va = va ∧ z = z_1) ∧ kd = kd ∧ bs = bs ∧ dm = dm ∧ ns = ns ∧ ap = ap ∧ bi = bi ∧ ng = ng ∧ xn = xn)) ∧ ∀ (z : Int), z = sizeJ kd (Int.ofNat (4 : Nat)).toNat → (decide (z = (0 : Int)) = true → (0 : Int) = (transS (Ent.mk kd bs dm ns ap bi ng xn) d va).size ∧ (0 : Int) = (transS (Ent.mk kd bs dm ns ap bi ng xn) d va).va ∧ (0 : Int) = (transS (Ent.mk kd bs dm ns ap bi ng xn) d va).pa ∧ (0 : Int) = (transS (Ent.mk kd bs dm ns ap bi ng xn) d va).dom ∧ (0 : Int) = (transS (Ent.mk kd bs dm ns ap bi ng xn) d va).ap ∧ (0 : Int) = (transS (Ent.mk kd bs dm ns ap bi ng xn) d va).bits ∧ false = (transS (Ent.mk kd bs dm ns ap bi ng xn) d va).ng ∧ false = (transS (Ent.mk kd bs dm ns ap bi ng xn) d va).xn) ∧ (decide (z = (0 : Int)) = false → ((!decide (z < (3 : Int))) = true → ((0 : Int) ≤ bs ∧ bs < (18446744073709551616 : Int) ∧ (0 : Int) ≤ bi ∧ bi < (4294967296 : Int)) ∧ ((!says1 (Ent.mk kd bs dm ns ap bi ng xn)) = true → (0 : Int) = (transS (Ent.mk kd bs dm ns ap bi ng xn) d va).size ∧ (0 : Int) = (transS (Ent.mk kd bs dm ns ap bi ng xn) d va).va ∧ (0 : Int) = (transS (Ent.mk kd bs dm ns ap bi ng xn) d va).pa ∧ (0 : Int) = (transS (Ent.mk kd bs dm ns ap bi ng xn) d va).dom ∧ (0 : Int) = (transS (Ent.mk kd bs dm ns ap bi ng xn) d va).ap ∧ (0 : Int) = (transS (Ent.mk kd bs dm ns ap bi ng xn) d va).bits ∧ false = (transS (Ent.mk kd bs dm ns ap bi ng xn) d va).ng ∧ false = (transS (Ent.mk kd bs dm ns ap bi ng xn) d va).xn) ∧ ((!says1 (Ent.mk kd bs dm ns ap bi ng xn)) = false → (z = (↑(nat_lit 0) : Int) → z = (transS (Ent.mk kd bs dm ns ap bi ng xn) d va).size ∧ bits BinOp.andNot IntKind.u32 va (IntKind.u32.wrap (IntKind.u32.wrap ((1 : Int) * (↑(1 : Nat) : Int)) - (1 : Int))) = (transS (Ent.mk kd bs dm ns ap bi ng xn) d va).va ∧ bs = (transS (Ent.mk kd bs dm ns ap bi ng xn) d va).pa ∧ dm = (transS (Ent.mk kd bs dm ns ap bi ng xn) d va).dom ∧ ap = (transS (Ent.mk kd bs dm ns ap bi ng xn) d va).ap ∧ bi = (transS (Ent.mk kd bs dm ns ap bi ng xn) d va).bits ∧ ng = (transS (Ent.mk kd bs dm ns ap bi ng xn) d va).ng ∧ xn = (transS (Ent.mk kd bs dm ns ap bi ng xn) d va).xn) ∧ (z = (↑(nat_lit 1) : Int) → z = (transS (Ent.mk kd bs dm ns ap bi ng xn) d va).size ∧ bits BinOp.andNot IntKind.u32 va (IntKind.u32.wrap (IntKind.u32.wrap ((1 : Int) * (↑(4096 : Nat) : Int)) - (1 : Int))) = (transS (Ent.mk kd bs dm ns ap bi ng xn) d va).va ∧ bs = (transS (Ent.mk kd bs dm ns ap bi ng xn) d va).pa ∧ dm = (transS (Ent.mk kd bs dm ns ap bi ng xn) d va).dom ∧ ap = (transS (Ent.mk kd bs dm ns ap bi ng xn) d va).ap ∧ bi = (transS (Ent.mk kd bs dm ns ap bi ng xn) d va).bits ∧ ng = (transS (Ent.mk kd bs dm ns ap bi ng xn) d va).ng ∧ xn = (transS (Ent.mk kd bs dm ns ap bi ng xn) d va).xn) ∧ (z = (↑(nat_lit 2) : Int) → z = (transS (Ent.mk kd bs dm ns ap bi ng xn) d va).size ∧ bits BinOp.andNot IntKind.u32 va (IntKind.u32.wrap (IntKind.u32.wrap ((1 : Int) * (↑(65536 : Nat) : Int)) - (1 : Int))) = (transS (Ent.mk kd bs dm ns ap bi ng xn) d va).va ∧ bs = (transS (Ent.mk kd bs dm ns ap bi ng xn) d va).pa ∧ dm = (transS (Ent.mk kd bs dm ns ap bi ng xn) d va).dom ∧ ap = (transS (Ent.mk kd bs dm ns ap bi ng xn) d va).ap ∧ bi = (transS (Ent.mk kd bs dm ns ap bi ng xn) d va).bits ∧ ng = (transS (Ent.mk kd bs dm ns ap bi ng xn) d va).ng ∧ xn = (transS (Ent.mk kd bs dm ns ap bi ng xn) d va).xn) ∧ (z = (↑(nat_lit 3) : Int) → z = (transS (Ent.mk kd bs dm ns ap bi ng xn) d va).size ∧ bits BinOp.andNot IntKind.u32 va (IntKind.u32.wrap (IntKind.u32.wrap ((1 : Int) * (↑(1048576 : Nat) : Int)) - (1 : Int))) = (transS (Ent.mk kd bs dm ns ap bi ng xn) d va).va ∧ bs = (transS (Ent.mk kd bs dm ns ap bi ng xn) d va).pa ∧ dm = (transS (Ent.mk kd bs dm ns ap bi ng xn) d va).dom ∧ ap = (transS (Ent.mk kd bs dm ns ap bi ng xn) d va).ap ∧ bi = (transS (Ent.mk kd bs dm ns ap bi ng xn) d va).bits ∧ ng = (transS (Ent.mk kd bs dm ns ap bi ng xn) d va).ng ∧ xn = (transS (Ent.mk kd bs dm ns ap bi ng xn) d va).xn) ∧ (z = (↑(nat_lit 4) : Int) → z = (transS (Ent.mk kd bs dm ns ap bi ng xn) d va).size ∧ bits BinOp.andNot IntKind.u32 va (IntKind.u32.wrap (IntKind.u32.wrap ((1 : Int) * (↑(16777216 : Nat) : Int)) - (1 : Int))) = (transS (Ent.mk kd bs dm ns ap bi ng xn) d va).va ∧ bs = (transS (Ent.mk kd bs dm ns ap bi ng xn) d va).pa ∧ dm = (transS (Ent.mk kd bs dm ns ap bi ng xn) d va).dom ∧ ap = (transS (Ent.mk kd bs dm ns ap bi ng xn) d va).ap ∧ bi = (transS (Ent.mk kd bs dm ns ap bi ng xn) d va).bits ∧ ng = (transS (Ent.mk kd bs dm ns ap bi ng xn) d va).ng ∧ xn = (transS (Ent.mk kd bs dm ns ap bi ng xn) d va).xn) ∧ (((0 : Int) ≤ z ∧ z < (↑(5 : Nat) : Int) → False) → False ∧ False))) ∧ ((!decide (z < (3 : Int))) = false → ((0 : Int) ≤ bs ∧ bs < (18446744073709551616 : Int) ∧ (0 : Int) ≤ bi ∧ bi < (4294967296 : Int)) ∧ ((!!says2 (Ent.mk kd bs dm ns ap bi ng xn)) = true → (!!says2 (Ent.mk kd bs dm ns ap bi ng xn)) = true) ∧ ((!!says2 (Ent.mk kd bs dm ns ap bi ng xn)) = true → (!!says2 (Ent.mk kd bs dm ns ap bi ng xn)) = true) ∧ ((!says2 (Ent.mk kd bs dm ns ap bi ng xn)) = false → (!!says2 (Ent.mk kd bs dm ns ap bi ng xn)) = true) ∧ ((bif !says2 (Ent.mk kd bs dm ns ap bi ng xn) then true else !domOk d) = true → (0 : Int) = (transS (Ent.mk kd bs dm ns ap bi ng xn) d va).size ∧ (0 : Int) = (transS (Ent.mk kd bs dm ns ap bi ng xn) d va).va ∧ (0 : Int) = (transS (Ent.mk kd bs dm ns ap bi ng xn) d va).pa ∧ (0 : Int) = (transS (Ent.mk kd bs dm ns ap bi ng xn) d va).dom ∧ (0 : Int) = (transS (Ent.mk kd bs dm ns ap bi ng xn) d va).ap ∧ (0 : Int) = (transS (Ent.mk kd bs dm ns ap bi ng xn) d va).bits ∧ false = (transS (Ent.mk kd bs dm ns ap bi ng xn) d va).ng ∧ false = (transS (Ent.mk kd bs dm ns ap bi ng xn) d va).xn) ∧ ((bif !says2 (Ent.mk kd bs dm ns ap bi ng xn) then true else !domOk d) = false → (z = (↑(nat_lit 0) : Int) → z = (transS (Ent.mk kd bs dm ns ap bi ng xn) d va).size ∧ bits BinOp.andNot IntKind.u32 va (IntKind.u32.wrap (IntKind.u32.wrap ((1 : Int) * (↑(1 : Nat) : Int)) - (1 : Int))) = (transS (Ent.mk kd bs dm ns ap bi ng xn) d va).va ∧ bs = (transS (Ent.mk kd bs dm ns ap bi ng xn) d va).pa ∧ d = (transS (Ent.mk kd bs dm ns ap bi ng xn) d va).dom ∧ ap = (transS (Ent.mk kd bs dm ns ap bi ng xn) d va).ap ∧ bi = (transS (Ent.mk kd bs dm ns ap bi ng xn) d va).bits ∧ ng = (transS (Ent.mk kd bs dm ns ap bi ng xn) d va).ng ∧ xn = (transS (Ent.mk kd bs dm ns ap bi ng xn) d va).xn) ∧ (z = (↑(nat_lit 1) : Int) → z = (transS (Ent.mk kd bs dm ns ap bi ng xn) d va).size ∧ bits BinOp.andNot IntKind.u32 va (IntKind.u32.wrap (IntKind.u32.wrap ((1 : Int) * (↑(4096 : Nat) : Int)) - (1 : Int))) = (transS (Ent.mk kd bs dm ns ap bi ng xn) d va).va ∧ bs = (transS (Ent.mk kd bs dm ns ap bi ng xn) d va).pa ∧ d = (transS (Ent.mk kd bs dm ns ap bi ng xn) d va).dom ∧ ap = (transS (Ent.mk kd bs dm ns ap bi ng xn) d va).ap ∧ bi = (transS (Ent.mk kd bs dm ns ap bi ng xn) d va).bits ∧ ng = (transS (Ent.mk kd bs dm ns ap bi ng xn) d va).ng ∧ xn = (transS (Ent.mk kd bs dm ns ap bi ng xn) d va).xn) ∧ (z = (↑(nat_lit 2) : Int) → z = (transS (Ent.mk kd bs dm ns ap bi ng xn) d va).size ∧ bits BinOp.andNot IntKind.u32 va (IntKind.u32.wrap (IntKind.u32.wrap ((1 : Int) * (↑(65536 : Nat) : Int)) - (1 : Int))) = (transS (Ent.mk kd bs dm ns ap bi ng xn) d va).va ∧ bs = (transS (Ent.mk kd bs dm ns ap bi ng xn) d va).pa ∧ d = (transS (Ent.mk kd bs dm ns ap bi ng xn) d va).dom ∧ ap = (transS (Ent.mk kd bs dm ns ap bi ng xn) d va).ap ∧ bi = (transS (Ent.mk kd bs dm ns ap bi ng xn) d va).bits ∧ ng = (transS (Ent.mk kd bs dm ns ap bi ng xn) d va).ng ∧ xn = (transS (Ent.mk kd bs dm ns ap bi ng xn) d va).xn) ∧ (z = (↑(nat_lit 3) : Int) → z = (transS (Ent.mk kd bs dm ns ap bi ng xn) d va).size ∧ bits BinOp.andNot IntKind.u32 va (IntKind.u32.wrap (IntKind.u32.wrap ((1 : Int) * (↑(1048576 : Nat) : Int)) - (1 : Int))) = (transS (Ent.mk kd bs dm ns ap bi ng xn) d va).va ∧ bs = (transS (Ent.mk kd bs dm ns ap bi ng xn) d va).pa ∧ d = (transS (Ent.mk kd bs dm ns ap bi ng xn) d va).dom ∧ ap = (transS (Ent.mk kd bs dm ns ap bi ng xn) d va).ap ∧ bi = (transS (Ent.mk kd bs dm ns ap bi ng xn) d va).bits ∧ ng = (transS (Ent.mk kd bs dm ns ap bi ng xn) d va).ng ∧ xn = (transS (Ent.mk kd bs dm ns ap bi ng xn) d va).xn) ∧ (z = (↑(nat_lit 4) : Int) → z = (transS (Ent.mk kd bs dm ns ap bi ng xn) d va).size ∧ bits BinOp.andNot IntKind.u32 va (IntKind.u32.wrap (IntKind.u32.wrap ((1 : Int) * (↑(16777216 : Nat) : Int)) - (1 : Int))) = (transS (Ent.mk kd bs dm ns ap bi ng xn) d va).va ∧ bs = (transS (Ent.mk kd bs dm ns ap bi ng xn) d va).pa ∧ d = (transS (Ent.mk kd bs dm ns ap bi ng xn) d va).dom ∧ ap = (transS (Ent.mk kd bs dm ns ap bi ng xn) d va).ap ∧ bi = (transS (Ent.mk kd bs dm ns ap bi ng xn) d va).bits ∧ ng = (transS (Ent.mk kd bs dm ns ap bi ng xn) d va).ng ∧ xn = (transS (Ent.mk kd bs dm ns ap bi ng xn) d va).xn) ∧ (((0 : Int) ≤ z ∧ z < (↑(5 : Nat) : Int) → False) → False ∧ False))))) from by kernel_rfl]
  obtain ⟨h0, h1, h2, h3, hv0, hv1⟩ := hn
  have a1 : IntKind.u32.wrap (IntKind.u32.wrap ((1 : Int) * ((4096 : Nat) : Int)) - 1) = 4095 := by decide
  have a2 : IntKind.u32.wrap (IntKind.u32.wrap ((1 : Int) * ((65536 : Nat) : Int)) - 1) = 65535 := by decide
  have a3 : IntKind.u32.wrap (IntKind.u32.wrap ((1 : Int) * ((1048576 : Nat) : Int)) - 1) = 1048575 := by decide
  have a4 : IntKind.u32.wrap (IntKind.u32.wrap ((1 : Int) * ((16777216 : Nat) : Int)) - 1) = 16777215 := by decide
  have w1 : IntKind.i64.wrap (0 + 1) = 1 := by decide
  have w2 : IntKind.i64.wrap (1 + 1) = 2 := by decide
  have w3 : IntKind.i64.wrap (2 + 1) = 3 := by decide
  have w4 : IntKind.i64.wrap (3 + 1) = 4 := by decide
  rw [a1, a2, a3, a4, w1, w2, w3, w4, an_u32 hv0 hv1 12 (by decide) 4095 4096 (by decide) (by decide), an_u32 hv0 hv1 16 (by decide) 65535 65536 (by decide) (by decide), an_u32 hv0 hv1 20 (by decide) 1048575 1048576 (by decide) (by decide), an_u32 hv0 hv1 24 (by decide) 16777215 16777216 (by decide) (by decide)]
  simp only [transS]
  generalize hS1 : says1 (Ent.mk kd bs dm ns ap bi ng xn) = S1
  generalize hS2 : says2 (Ent.mk kd bs dm ns ap bi ng xn) = S2
  generalize hD : domOk d = D
  clear hS1 hS2 hD
  by_cases k5 : kd = 5
  · subst k5; cases S2 <;> cases D <;> simp [sizeJ, sizeK, shiftS, h0, h1, h2, h3, Tr.zero]
  by_cases k4 : kd = 4
  · subst k4; cases S2 <;> cases D <;> simp [sizeJ, sizeK, shiftS, h0, h1, h2, h3, Tr.zero]
  by_cases k2 : kd = 2
  · subst k2; cases S1 <;> simp [sizeJ, sizeK, shiftS, h0, h1, h2, h3, Tr.zero]
  by_cases k3 : kd = 3
  · subst k3; cases S1 <;> simp [sizeJ, sizeK, shiftS, h0, h1, h2, h3, Tr.zero]
  simp [sizeJ, sizeK, k2, k3, k4, k5, Ne.symm k2, Ne.symm k3, Ne.symm k4, Ne.symm k5, Tr.zero]
theorem transC_ch (kd bs dm ap bi : Int) (ns ng xn : Bool) (d va : Int) : ∃ r ∈ ([⟨none, some (0 ≤ bs ∧ bs < 18446744073709551616 ∧ 0 ≤ bi ∧ bi < 4294967296 ∧ 0 ≤ va ∧ va < 4294967296), .det (.val (.agg [.int .i64 (.tm ((transS (Ent.mk kd bs dm ns ap bi ng xn) d va).size)), .int .u32 (.tm ((transS (Ent.mk kd bs dm ns ap bi ng xn) d va).va)), .int .u64 (.tm ((transS (Ent.mk kd bs dm ns ap bi ng xn) d va).pa)), .int .i64 (.tm ((transS (Ent.mk kd bs dm ns ap bi ng xn) d va).dom)), .int .i64 (.tm ((transS (Ent.mk kd bs dm ns ap bi ng xn) d va).ap)), .int .u32 (.tm ((transS (Ent.mk kd bs dm ns ap bi ng xn) d va).bits)), .bool (.tm ((transS (Ent.mk kd bs dm ns ap bi ng xn) d va).ng)), .bool (.tm ((transS (Ent.mk kd bs dm ns ap bi ng xn) d va).xn))])) ([])⟩] : List Res), holdsP r.g ∧ (holdsP r.need → r.r.shaped [] ∧ ∃ anns, fnVC Tryd.prog GTab (callOf Tryd.prog GTab [says1C, says2C, domC]) anns Tryd.f31 ((Tryd.f31.body).getD .skip) [.val (.agg [.int .i64 (.tm kd), .int .u64 (.tm bs), .int .i64 (.tm dm), .bool (.tm ns), .int .i64 (.tm ap), .int .u32 (.tm bi), .bool (.tm ng), .bool (.tm xn)]), .val (.one (.int .i64 (.tm d))), .val (.one (.int .u32 (.tm va)))] [] r) := by
  exact ⟨_, List.mem_cons_self, trivial, fun hn => ⟨trivial, transC_p0 kd bs dm ap bi ns ng xn d va hn⟩⟩
theorem transC_ok : transC.ok Tryd.prog GTab := by
  refine con_ok (cs := [says1C, says2C, domC]) (body := (Tryd.f31.body).getD .skip) ?_ Tryd.func31 rfl ?_
  · intro c h
    simp only [List.mem_cons, List.not_mem_nil, or_false] at h
    rcases h with rfl | rfl | rfl
    · exact says1C_ok
    · exact says2C_ok
    · exact domC_ok
  · intro args h l hl
    unfold transC at hl
    dsimp only at hl
    split at hl
    · cases hl
      exact transC_ch _ _ _ _ _ _ _ _ _ _
    · cases hl
end Go.Proofs.YtpdijogpbnaplaaDoor.con
