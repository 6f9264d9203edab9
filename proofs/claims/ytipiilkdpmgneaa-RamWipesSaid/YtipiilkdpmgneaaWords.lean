/- The small functions of the law over three memories, and its step of single bytes, halves and words: what the program answers is what the document says. -/
import Derived.Test.YtipiilkdpmgneaaRef
import Derived.KernelRfl
namespace Go.Proofs.Ytipiilkdpmgneaa.con
open Go Go.Proofs.YtipiilkdpmgneaaHz
set_option maxRecDepth 100000
set_option maxHeartbeats 4000000
/-- which memory a number names -/
def whoN (n : Int) : Int := if n % 4 = 3 then 0 else n % 4
theorem and_i64 (i : Nat) (hi : i ≤ 62) (x : Int) : bits .and .i64 x (2 ^ i - 1) = x % 2 ^ i := by
  have hm : ((2 : Int) ^ i - 1) = ((2 ^ i - 1 : Nat) : Int) := by
    rw [Int.natCast_sub (Nat.two_pow_pos i)]; simp
  have hle : 2 ^ i ≤ 2 ^ 62 := Nat.pow_le_pow_right (by decide) hi
  have h64 : (2 ^ i - 1) % 2 ^ 64 = 2 ^ i - 1 := Nat.mod_eq_of_lt (by have : (2 : Nat) ^ 62 < 2 ^ 64 := by decide
                                                                      omega)
  have hd : (2 : Int) ^ i ∣ 2 ^ 64 := by
    rw [show (64 : Nat) = i + (64 - i) by omega, Int.pow_add]; exact Int.dvd_mul_right _ _
  rw [hm]
  show IntKind.i64.wrap ((((BitVec.ofInt 64 x) &&& (BitVec.ofInt 64 ((2 ^ i - 1 : Nat) : Int))).toNat : Nat) : Int) = x % 2 ^ i
  simp only [BitVec.toNat_and, BitVec.toNat_ofInt, BitVec.ofInt_natCast, BitVec.toNat_ofNat, h64, Nat.and_two_pow_sub_one_eq_mod]
  have hx : 0 ≤ x % 2 ^ 64 := Int.emod_nonneg _ (by decide)
  have e : (((x % ((2 ^ 64 : Nat) : Int)).toNat % 2 ^ i : Nat) : Int) = x % 2 ^ i := by
    rw [Int.natCast_emod, show ((2 ^ 64 : Nat) : Int) = 2 ^ 64 from rfl, Int.toNat_of_nonneg hx, Int.natCast_pow]
    exact Int.emod_emod_of_dvd x hd
  rw [e]
  have hb1 : 0 ≤ x % 2 ^ i := Int.emod_nonneg _ (Int.ne_of_gt (Int.pow_pos (by decide)))
  have hb2 : x % 2 ^ i < 2 ^ i := Int.emod_lt_of_pos _ (Int.pow_pos (by decide))
  have hle2 : (2 : Int) ^ i ≤ 4611686018427387904 := by
    have := Int.ofNat_le.2 hle
    rw [Int.natCast_pow, Int.natCast_pow] at this
    exact this
  exact wrap_i64 (by omega) (by omega)
theorem and3 (n : Int) : bits .and .i64 n 3 = n % 4 := and_i64 2 (by decide) n
theorem eq_or (N M : Nat) (f g : Nat → Int) : (N = M ∧ ∀ j, j < N → f j = g j) ∨ ¬ (N = M ∧ ∀ j, j < N → f j = g j) := Classical.em _
/-- three memories of the program, and the document's, of so many frames each -/
structure T3 where
  n : Nat → Int
  p : Nat → PM
  r : Nat → RM
def T3.of (n0 n1 n2 : Int) (p0 p1 p2 : PM) (r0 r1 r2 : RM) : T3 := ⟨fun | 0 => n0 | 1 => n1 | _ => n2, fun | 0 => p0 | 1 => p1 | _ => p2, fun | 0 => r0 | 1 => r1 | _ => r2⟩
abbrev T3.P0 (t : T3) : PM := t.p 0
abbrev T3.P1 (t : T3) : PM := t.p 1
abbrev T3.P2 (t : T3) : PM := t.p 2
abbrev T3.R0 (t : T3) : RM := t.r 0
abbrev T3.R1 (t : T3) : RM := t.r 1
abbrev T3.R2 (t : T3) : RM := t.r 2
abbrev T3.N0 (t : T3) : Int := t.n 0
abbrev T3.N1 (t : T3) : Int := t.n 1
abbrev T3.N2 (t : T3) : Int := t.n 2
abbrev T3.cp (t : T3) : T3 := T3.of t.N0 t.N1 t.N2 t.P0 t.P1 t.P2 t.R0 t.R1 t.R2
def SubM (p q : PM) : Prop := (∀ i, p.has i = q.has i) ∧ ∀ i, p.has i = true → p.bb i = q.bb i
def SubF (dom : Nat → Bool) (ln : Nat → Nat) (g : Nat → Nat → Int) (dom' : Nat → Bool) (ln' : Nat → Nat) (g' : Nat → Nat → Int) : Prop := ∀ b, dom' b = true → dom b = true ∧ ln' b = ln b ∧ ∀ j, j < ln' b → g b j = g' b j
def SubR (r : RM) (l : Nat → Nat) (q : RM) : Prop := r.cnt = q.cnt ∧ (∀ i, i < r.cnt → r.no i = q.no i) ∧ ∀ i, i < r.cnt → r.bb i = q.bb i ∧ l i = 0 ∧ r.sl i = q.sl i
def SubB (rd : Nat → Bool) (rv : Nat → Nat → Bool) (rf : Nat → Nat → Int) : Prop := ∀ b, rd b = true → rd b = true ∧ ∀ j, rv b j = true → rv b j = true ∧ rf b j = rf b j
/-- three memories of the program and the document's stand for those of x -/
abbrev Sub3 (n0 n1 n2 : Int) (p0 p1 p2 : PM) (m0 m1 m2 : Int) (r0 r1 r2 : RM) (l0 l1 l2 : Nat → Nat) (x : T3) : Prop := n0 = x.N0 ∧ SubM p0 x.P0 ∧ SubF p0.dom p0.ln p0.g x.P0.dom x.P0.ln x.P0.g ∧ n1 = x.N1 ∧ SubM p1 x.P1 ∧ SubF p1.dom p1.ln p1.g x.P1.dom x.P1.ln x.P1.g ∧ n2 = x.N2 ∧ SubM p2 x.P2 ∧ SubF p2.dom p2.ln p2.g x.P2.dom x.P2.ln x.P2.g ∧
  m0 = x.N0 ∧ SubR r0 l0 x.R0 ∧ SubF r0.dom r0.ln r0.g x.R0.dom x.R0.ln x.R0.g ∧ m1 = x.N1 ∧ SubR r1 l1 x.R1 ∧ SubF r1.dom r1.ln r1.g x.R1.dom x.R1.ln x.R1.g ∧ m2 = x.N2 ∧ SubR r2 l2 x.R2 ∧ SubF r2.dom r2.ln r2.g x.R2.dom x.R2.ln x.R2.g
/-- the cells of room -/
abbrev mkR (rf : Nat → Nat → Int) (b0 o c i : Nat) : Int := if i < c then rf b0 (o + i) else if i = c then 165 else 90
theorem SubM.refl (p : PM) : SubM p p := ⟨fun _ => rfl, fun _ _ => rfl⟩
theorem SubF.refl (dom : Nat → Bool) (ln : Nat → Nat) (g : Nat → Nat → Int) : SubF dom ln g dom ln g := fun _ h => ⟨h, rfl, fun _ _ => rfl⟩
theorem SubR.refl {r : RM} {l : Nat → Nat} (h : ∀ i, i < r.cnt → l i = 0) : SubR r l r := ⟨rfl, fun _ _ => rfl, fun i hi => ⟨rfl, h i hi, rfl⟩⟩
theorem SubR.refl0 (r : RM) : SubR r (fun _ => 0) r := SubR.refl fun _ _ => rfl
theorem SubB.refl (rd : Nat → Bool) (rv : Nat → Nat → Bool) (rf : Nat → Nat → Int) : SubB rd rv rf := fun _ h => ⟨h, fun _ h2 => ⟨h2, rfl⟩⟩
structure T3.Inv (t : T3) : Prop where
  n : ∀ i, i < 3 → 1 ≤ t.n i ∧ t.n i ≤ 65536
  p : ∀ i, i < 3 → (t.p i).Inv (t.n i)
  r : ∀ i, i < 3 → (t.r i).Inv (t.n i)
  e : ∀ i, i < 3 → ∀ b, 0 ≤ b → (t.p i).at_ b = (t.r i).at_ b
theorem whoN_or (w : Int) : whoN w = 0 ∨ whoN w = 1 ∨ whoN w = 2 := by unfold whoN; split <;> omega
theorem six_or (kd w : Int) : ((kd = 1) ∧ whoN w = 0) ∨ ((kd = 1) ∧ whoN w = 1) ∨ ((kd = 1) ∧ whoN w = 2) ∨ ((kd = 2) ∧ whoN w = 0) ∨ ((kd = 2) ∧ whoN w = 1) ∨ ((kd = 2) ∧ whoN w = 2) ∨ ((kd = 3) ∧ whoN w = 0) ∨ ((kd = 3) ∧ whoN w = 1) ∨ ((kd = 3) ∧ whoN w = 2) ∨ ((kd = 4) ∧ whoN w = 0) ∨ ((kd = 4) ∧ whoN w = 1) ∨ ((kd = 4) ∧ whoN w = 2) ∨ ((kd = 5) ∧ whoN w = 0) ∨ ((kd = 5) ∧ whoN w = 1) ∨ ((kd = 5) ∧ whoN w = 2) ∨ ((kd ≠ 1 ∧ kd ≠ 2 ∧ kd ≠ 3 ∧ kd ≠ 4 ∧ kd ≠ 5) ∧ whoN w = 0) ∨ ((kd ≠ 1 ∧ kd ≠ 2 ∧ kd ≠ 3 ∧ kd ≠ 4 ∧ kd ≠ 5) ∧ whoN w = 1) ∨ ((kd ≠ 1 ∧ kd ≠ 2 ∧ kd ≠ 3 ∧ kd ≠ 4 ∧ kd ≠ 5) ∧ whoN w = 2) := by
  have := whoN_or w
  by_cases h1 : kd = 1
  · simp [h1, this]
  by_cases h2 : kd = 2
  · simp [h2, this]
  by_cases h3 : kd = 3
  · simp [h3, this]
  by_cases h4 : kd = 4
  · simp [h4, this]
  by_cases h5 : kd = 5
  · simp [h5, this]
  simp [h1, h2, h3, h4, h5, this]
theorem PM.eta (p : PM) : PM.mk p.has p.bb p.ln p.dom p.g = p := rfl
theorem RM.eta (p : RM) : RM.mk p.cnt p.no p.bb p.sl p.ln p.dom p.g = p := rfl
theorem rd_same1 {n a : Int} {p : PM} {r : RM} (hp : p.Inv n) (he : ∀ b, 0 ≤ b → p.at_ b = r.at_ b) (h0 : 0 ≤ a) : IntKind.u64.wrap (if err n a 1 = 0 then p.at_ a else 0) = if err n a 1 = 0 then le r.at_ a 1 else 0 := by
  rw [le_one, ← he a h0]
  have := hp.bd a
  split
  · exact wrap_u64 (by omega) (by omega)
  · rfl
theorem rd_same2 {n a : Int} {p : PM} {r : RM} (hp : p.Inv n) (he : ∀ b, 0 ≤ b → p.at_ b = r.at_ b) (h0 : 0 ≤ a) : IntKind.u64.wrap (if err n a 2 = 0 then le p.at_ a 2 else 0) = if err n a 2 = 0 then le r.at_ a 2 else 0 := by
  rw [← le_ext (f := p.at_) 2 a (fun b h1 h2 => he b (by omega))]
  have := le_bd hp.bd 2 a
  simp at this
  split
  · exact wrap_u64 (by omega) (by omega)
  · rfl
theorem rd_same3 {n a : Int} {p : PM} {r : RM} (_ : p.Inv n) (he : ∀ b, 0 ≤ b → p.at_ b = r.at_ b) (h0 : 0 ≤ a) : (if err n a 4 = 0 then le p.at_ a 4 else 0) = if err n a 4 = 0 then le r.at_ a 4 else 0 := by
  rw [← le_ext (f := p.at_) 4 a (fun b h1 h2 => he b (by omega))]
theorem setF_mod (f : Int → Int) (a v b : Int) {k : Int} (h : 0 ≤ k) : setF f a k (v % 256 ^ k.toNat) b = setF f a k v b := by
  unfold setF
  split
  · rename_i hb
    have e : (256 : Int) ^ k.toNat = 256 ^ (b - a).toNat * (256 * 256 ^ (k.toNat - (b - a).toNat - 1)) := by
      rw [← Int.pow_succ', ← Int.pow_add, show (b - a).toNat + (k.toNat - (b - a).toNat - 1 + 1) = k.toNat by omega]
    rw [e]
    generalize (256 : Int) ^ (k.toNat - (b - a).toNat - 1) = B
    have hA : (256 : Int) ^ (b - a).toNat ≠ 0 := Int.ne_of_gt (Int.pow_pos (by decide))
    generalize (256 : Int) ^ (b - a).toNat = A at hA
    have h1 : v / A = v % (A * (256 * B)) / A + 256 * (B * (v / (A * (256 * B)))) := by
      conv => lhs; rw [← Int.emod_add_mul_ediv v (A * (256 * B)), Int.mul_assoc, Int.add_mul_ediv_left _ _ hA, Int.mul_assoc]
    rw [h1, Int.add_mul_emod_self_left]
  · rfl
theorem wrap_u16' (x : Int) : IntKind.u16.wrap x = x % 65536 := by
  simp only [IntKind.wrap, IntKind.bits, IntKind.signed]; simp
theorem setF_same {f g : Int → Int} {a k v b : Int} (h : f b = g b) : setF f a k v b = setF g a k v b := by
  unfold setF; rw [h]
theorem wr_same1 {f g : Int → Int} {n a v b : Int} (he : ∀ b, 0 ≤ b → f b = g b) (hb : 0 ≤ b) : wrA n f a 1 (v % 256) b = wrA n g a 1 v b := by
  unfold wrA
  have := setF_mod f a v b (k := 1) (by decide)
  rw [show (256 : Int) ^ (1 : Int).toNat = 256 by decide] at this
  rw [this, setF_same (he b hb), he b hb]
theorem wr_same2 {f g : Int → Int} {n a v b : Int} (he : ∀ b, 0 ≤ b → f b = g b) (hb : 0 ≤ b) : wrA n f a 2 (v % 65536) b = wrA n g a 2 v b := by
  unfold wrA
  have := setF_mod f a v b (k := 2) (by decide)
  rw [show (256 : Int) ^ (2 : Int).toNat = 65536 by decide] at this
  rw [this, setF_same (he b hb), he b hb]
theorem wr_same3 {f g : Int → Int} {n a v b : Int} (he : ∀ b, 0 ≤ b → f b = g b) (hb : 0 ≤ b) : wrA n f a 4 v b = wrA n g a 4 v b := by
  unfold wrA
  rw [setF_same (he b hb), he b hb]
/-- one memory of the three, and the document's, in another state -/
def T3.set (t : T3) (w : Nat) (n : Int) (p : PM) (r : RM) : T3 := ⟨fun i => if i = w then n else t.n i, fun i => if i = w then p else t.p i, fun i => if i = w then r else t.r i⟩
theorem T3.Inv.set {t : T3} (h : t.Inv) (w : Nat) {n : Int} {p : PM} {r : RM} (hn : 1 ≤ n ∧ n ≤ 65536) (hp : p.Inv n) (hr : r.Inv n) (he : ∀ b, 0 ≤ b → p.at_ b = r.at_ b) : (t.set w n p r).Inv := by
  refine ⟨fun i hi => ?_, fun i hi => ?_, fun i hi => ?_, fun i hi => ?_⟩ <;> simp only [T3.set] <;> split
  · exact hn
  · exact h.n i hi
  · exact hp
  · exact h.p i hi
  · exact hr
  · exact h.r i hi
  · exact he
  · exact h.e i hi
theorem step_or (kd w N : Int) : ((kd = 1) ∧ whoN w = 0) ∨ ((kd = 1) ∧ whoN w = 1) ∨ ((kd = 1) ∧ whoN w = 2) ∨ ((kd = 2) ∧ whoN w = 0) ∨ ((kd = 2) ∧ whoN w = 1) ∨ ((kd = 2) ∧ whoN w = 2) ∨ ((kd = 3) ∧ whoN w = 0) ∨ ((kd = 3) ∧ whoN w = 1) ∨ ((kd = 3) ∧ whoN w = 2) ∨ ((kd = 4) ∧ whoN w = 0) ∨ ((kd = 4) ∧ whoN w = 1) ∨ ((kd = 4) ∧ whoN w = 2) ∨ ((kd = 5) ∧ whoN w = 0) ∨ ((kd = 5) ∧ whoN w = 1) ∨ ((kd = 5) ∧ whoN w = 2) ∨ ((kd = 6) ∧ whoN w = 0) ∨ ((kd = 6) ∧ whoN w = 1) ∨ ((kd = 6) ∧ whoN w = 2) ∨ ((kd = 7) ∧ whoN w = 0) ∨ ((kd = 7) ∧ whoN w = 1) ∨ ((kd = 7) ∧ whoN w = 2) ∨ ((kd = 8) ∧ whoN w = 0) ∨ ((kd = 8) ∧ whoN w = 1) ∨ ((kd = 8) ∧ whoN w = 2) ∨ ((kd = 9) ∧ whoN w = 0) ∨ ((kd = 9) ∧ whoN w = 1) ∨ ((kd = 9) ∧ whoN w = 2) ∨ ((kd = 10) ∧ whoN w = 0) ∨ ((kd = 10) ∧ whoN w = 1) ∨ ((kd = 10) ∧ whoN w = 2) ∨ ((kd = 11 ∧ whoN N = 0) ∧ whoN w = 0) ∨ ((kd = 11 ∧ whoN N = 0) ∧ whoN w = 1) ∨ ((kd = 11 ∧ whoN N = 0) ∧ whoN w = 2) ∨ ((kd = 11 ∧ whoN N = 1) ∧ whoN w = 0) ∨ ((kd = 11 ∧ whoN N = 1) ∧ whoN w = 1) ∨ ((kd = 11 ∧ whoN N = 1) ∧ whoN w = 2) ∨ ((kd = 11 ∧ whoN N = 2) ∧ whoN w = 0) ∨ ((kd = 11 ∧ whoN N = 2) ∧ whoN w = 1) ∨ ((kd = 11 ∧ whoN N = 2) ∧ whoN w = 2) ∨ ((kd < 1 ∨ 11 < kd) ∧ whoN w = 0) ∨ ((kd < 1 ∨ 11 < kd) ∧ whoN w = 1) ∨ ((kd < 1 ∨ 11 < kd) ∧ whoN w = 2) := by
  have h1 := whoN_or w
  have h2 := whoN_or N
  have hk : (1 ≤ kd ∧ kd ≤ 6) ∨ kd = 7 ∨ kd = 8 ∨ kd = 9 ∨ kd = 10 ∨ kd = 11 ∨ (kd < 1 ∨ 11 < kd) := by omega
  rcases hk with h | h | h | h | h | h | h
  · have hk : kd = 1 ∨ kd = 2 ∨ kd = 3 ∨ kd = 4 ∨ kd = 5 ∨ kd = 6 := by omega
    rcases hk with h | h | h | h | h | h <;> rcases h1 with e | e | e <;> simp [h, e]
  · rcases h1 with e | e | e <;> simp [h, e]
  · rcases h1 with e | e | e <;> simp [h, e]
  · rcases h1 with e | e | e <;> simp [h, e]
  · rcases h1 with e | e | e <;> simp [h, e]
  · rcases h1 with e | e | e <;> rcases h2 with e2 | e2 | e2 <;> simp [h, e, e2]
  · rcases h1 with e | e | e <;> simp [h, e]
theorem T3.of_inv {t : T3} (h : t.Inv) : (T3.of (t.n 0) (t.n 1) (t.n 2) (t.p 0) (t.p 1) (t.p 2) (t.r 0) (t.r 1) (t.r 2)).Inv := by
  refine ⟨fun i hi => ?_, fun i hi => ?_, fun i hi => ?_, fun i hi => ?_⟩
  · match i, hi with
    | 0, _ => exact h.n 0 (by decide)
    | 1, _ => exact h.n 1 (by decide)
    | 2, _ => exact h.n 2 (by decide)
  · match i, hi with
    | 0, _ => exact h.p 0 (by decide)
    | 1, _ => exact h.p 1 (by decide)
    | 2, _ => exact h.p 2 (by decide)
  · match i, hi with
    | 0, _ => exact h.r 0 (by decide)
    | 1, _ => exact h.r 1 (by decide)
    | 2, _ => exact h.r 2 (by decide)
  · match i, hi with
    | 0, _ => exact h.e 0 (by decide)
    | 1, _ => exact h.e 1 (by decide)
    | 2, _ => exact h.e 2 (by decide)
theorem pw0 {n : Int} {Q : Prop} (h : n = 0) (q : Q) : (n = 1 → False) ∧ (n = 2 → False) ∧ (n = 0 → Q) := ⟨fun e => by omega, fun e => by omega, fun _ => q⟩
theorem pw1 {n : Int} {Q : Prop} (h : n = 1) (q : Q) : (n = 0 → False) ∧ (n = 2 → False) ∧ (n = 1 → Q) := ⟨fun e => by omega, fun e => by omega, fun _ => q⟩
theorem pw2 {n : Int} {Q : Prop} (h : n = 2) (q : Q) : (n = 0 → False) ∧ (n = 1 → False) ∧ (n = 2 → Q) := ⟨fun e => by omega, fun e => by omega, fun _ => q⟩
theorem wipeA_same {n : Int} {f g : Int → Int} {k b : Int} (h : f b = g b) : wipeA n f k b = wipeA n g k b := by
  unfold wipeA; rw [h]
theorem tch_same {n : Int} {f g : Int → Int} (h : ∀ b, 0 ≤ b → f b = g b) : tch n f = tch n g := by
  funext k
  rw [Bool.eq_iff_iff, tch_iff, tch_iff]
  refine and_congr_right fun hk => ⟨fun ⟨j, h1, h2⟩ => ⟨j, h1, ?_⟩, fun ⟨j, h1, h2⟩ => ⟨j, h1, ?_⟩⟩
  · rw [← h _ (by omega)]; exact h2
  · rw [h _ (by omega)]; exact h2
theorem rdLen_le (n a : Int) {c : Int} : (rdLen n a c : Int) ≤ max c 0 := by
  unfold rdLen
  split <;> omega
theorem wrB_same {n : Int} {f g : Int → Int} {a : Int} {c : Nat} {h h' : Nat → Int} {b : Int} (hf : f b = g b) (hh : ∀ i, i < c → h i = h' i) : wrB n f a c h b = wrB n g a c h' b := by
  unfold wrB wrF
  split
  · split
    · exact hh _ (by omega)
    · exact hf
  · exact hf
def RM.none : RM := ⟨0, fun _ => 0, fun _ => 0, fun _ => 0, fun _ => 4096, fun _ => false, fun _ _ => 0⟩
def T3.new (n : Int) : T3 := T3.of 1 2 n PM.none PM.none PM.none RM.none RM.none RM.none
theorem rinv_none (n : Int) : RM.none.Inv n := ⟨fun _ => rfl, fun i h => absurd h (Nat.not_lt_zero _), fun i h => absurd h (Nat.not_lt_zero _), fun i j h => absurd h (Nat.not_lt_zero _), fun i j h => absurd h (Nat.not_lt_zero _), fun b j h => by cases h⟩
noncomputable def whoC : Con := ⟨27, fun args h => match args, h with
  | [.val (.one (.int .i64 (.tm n)))], [] => some [⟨some (whoN n = 0), none, .det (.val (.one (.int .i64 (.lit 0)))) ([])⟩, ⟨some (whoN n = 1), none, .det (.val (.one (.int .i64 (.lit 1)))) ([])⟩, ⟨some (whoN n = 2), none, .det (.val (.one (.int .i64 (.lit 2)))) ([])⟩]
  | _, _ => none, true⟩
theorem whoC_p0 (n : Int) (hg : whoN n = 0) : ∃ anns, fnVC Try.prog [] (callOf Try.prog [] []) anns Try.f27 ((Try.f27.body).getD .skip) [.val (.one (.int .i64 (.tm n)))] [] ⟨some (whoN n = 0), none, .det (.val (.one (.int .i64 (.lit 0)))) ([])⟩ := by
  refine ⟨⟨[], [], [], [], [], []⟩, ?_⟩
  rw [show fnVC Try.prog [] (callOf Try.prog [] []) ⟨[], [], [], [], [], []⟩ Try.f27 ((Try.f27.body).getD .skip) [.val (.one (.int .i64 (.tm n)))] [] ⟨some (whoN n = 0), none, .det (.val (.one (.int .i64 (.lit 0)))) ([])⟩ = ((decide (bits BinOp.and IntKind.i64 n (3 : Int) = (3 : Int)) = true → True) ∧ (decide (bits BinOp.and IntKind.i64 n (3 : Int) = (3 : Int)) = false → bits BinOp.and IntKind.i64 n (3 : Int) = (0 : Int))) from by kernel_rfl]
  rw [and3]
  unfold whoN at hg
  split at hg <;> simp <;> omega
theorem whoC_p1 (n : Int) (hg : whoN n = 1) : ∃ anns, fnVC Try.prog [] (callOf Try.prog [] []) anns Try.f27 ((Try.f27.body).getD .skip) [.val (.one (.int .i64 (.tm n)))] [] ⟨some (whoN n = 1), none, .det (.val (.one (.int .i64 (.lit 1)))) ([])⟩ := by
  refine ⟨⟨[], [], [], [], [], []⟩, ?_⟩
  rw [show fnVC Try.prog [] (callOf Try.prog [] []) ⟨[], [], [], [], [], []⟩ Try.f27 ((Try.f27.body).getD .skip) [.val (.one (.int .i64 (.tm n)))] [] ⟨some (whoN n = 1), none, .det (.val (.one (.int .i64 (.lit 1)))) ([])⟩ = ((decide (bits BinOp.and IntKind.i64 n (3 : Int) = (3 : Int)) = true → False) ∧ (decide (bits BinOp.and IntKind.i64 n (3 : Int) = (3 : Int)) = false → bits BinOp.and IntKind.i64 n (3 : Int) = (1 : Int))) from by kernel_rfl]
  rw [and3]
  unfold whoN at hg
  split at hg <;> simp <;> omega
theorem whoC_p2 (n : Int) (hg : whoN n = 2) : ∃ anns, fnVC Try.prog [] (callOf Try.prog [] []) anns Try.f27 ((Try.f27.body).getD .skip) [.val (.one (.int .i64 (.tm n)))] [] ⟨some (whoN n = 2), none, .det (.val (.one (.int .i64 (.lit 2)))) ([])⟩ := by
  refine ⟨⟨[], [], [], [], [], []⟩, ?_⟩
  rw [show fnVC Try.prog [] (callOf Try.prog [] []) ⟨[], [], [], [], [], []⟩ Try.f27 ((Try.f27.body).getD .skip) [.val (.one (.int .i64 (.tm n)))] [] ⟨some (whoN n = 2), none, .det (.val (.one (.int .i64 (.lit 2)))) ([])⟩ = ((decide (bits BinOp.and IntKind.i64 n (3 : Int) = (3 : Int)) = true → False) ∧ (decide (bits BinOp.and IntKind.i64 n (3 : Int) = (3 : Int)) = false → bits BinOp.and IntKind.i64 n (3 : Int) = (2 : Int))) from by kernel_rfl]
  rw [and3]
  unfold whoN at hg
  split at hg <;> simp <;> omega
theorem whoC_ch (n : Int) : ∃ r ∈ ([⟨some (whoN n = 0), none, .det (.val (.one (.int .i64 (.lit 0)))) ([])⟩, ⟨some (whoN n = 1), none, .det (.val (.one (.int .i64 (.lit 1)))) ([])⟩, ⟨some (whoN n = 2), none, .det (.val (.one (.int .i64 (.lit 2)))) ([])⟩] : List Res), holdsP r.g ∧ (holdsP r.need → r.r.shaped [] ∧ ∃ anns, fnVC Try.prog [] (callOf Try.prog [] []) anns Try.f27 ((Try.f27.body).getD .skip) [.val (.one (.int .i64 (.tm n)))] [] r) := by
  have hx : (whoN n = 0) ∨ (whoN n = 1) ∨ (whoN n = 2) := by
    exact whoN_or n
  rcases hx with h | h | h
  · exact ⟨_, List.mem_cons_self, h, fun _ => ⟨trivial, whoC_p0 n h⟩⟩
  · exact ⟨_, (List.mem_cons_of_mem _ List.mem_cons_self), h, fun _ => ⟨trivial, whoC_p1 n h⟩⟩
  · exact ⟨_, (List.mem_cons_of_mem _ (List.mem_cons_of_mem _ List.mem_cons_self)), h, fun _ => ⟨trivial, whoC_p2 n h⟩⟩
theorem whoC_ok : whoC.ok Try.prog [] := by
  refine con_ok (cs := []) (body := (Try.f27.body).getD .skip) ?_ Try.func27 rfl ?_
  · intro c h; cases h
  · intro args h l hl
    unfold whoC at hl
    dsimp only at hl
    split at hl
    · cases hl
      exact whoC_ch _
    · cases hl
noncomputable def eqVVC : Con := ⟨26, fun args h => match args, h with
  | [.val (.one (.vec 0)), .val (.one (.vec 1))], [.vec false 5 (N) [.ints .u8 f], .vec false 5 (M) [.ints .u8 g]] => some [⟨some (N = M ∧ ∀ j, j < N → f j = g j), some ((N : Int) ≤ 9223372036854775807), .det (.val (.one (.bool (.lit true)))) ([.vec false 5 (N) [.ints .u8 f], .vec false 5 (M) [.ints .u8 g]])⟩, ⟨some (¬ (N = M ∧ ∀ j, j < N → f j = g j)), some ((N : Int) ≤ 9223372036854775807), .det (.val (.one (.bool (.lit false)))) ([.vec false 5 (N) [.ints .u8 f], .vec false 5 (M) [.ints .u8 g]])⟩]
  | _, _ => none, true⟩
theorem eqVVC_p0 (N M : Nat) (f g : Nat → Int) (hg : N = M ∧ ∀ j, j < N → f j = g j) (hn : (N : Int) ≤ 9223372036854775807) : ∃ anns, fnVC Try.prog [] (callOf Try.prog [] []) anns Try.f26 ((Try.f26.body).getD .skip) [.val (.one (.vec 0)), .val (.one (.vec 1))] [.vec false 5 (N) [.ints .u8 f], .vec false 5 (M) [.ints .u8 g]] ⟨some (N = M ∧ ∀ j, j < N → f j = g j), some ((N : Int) ≤ 9223372036854775807), .det (.val (.one (.bool (.lit true)))) ([.vec false 5 (N) [.ints .u8 f], .vec false 5 (M) [.ints .u8 g]])⟩ := by
  refine ⟨⟨[⟨Nat, fun σ x => setT [(5, .val (.one (.int .i64 (.tm ((x : Int))))))] σ, fun _ x => x ≤ N ∧ ∀ j, j < x → f j = g j, fun x => N - x⟩], [], [], [], [], []⟩, ?_⟩
  rw [show fnVC Try.prog [] (callOf Try.prog [] []) ⟨[⟨Nat, fun σ x => setT [(5, .val (.one (.int .i64 (.tm ((x : Int))))))] σ, fun _ x => x ≤ N ∧ ∀ j, j < x → f j = g j, fun x => N - x⟩], [], [], [], [], []⟩ Try.f26 ((Try.f26.body).getD .skip) [.val (.one (.vec 0)), .val (.one (.vec 1))] [.vec false 5 (N) [.ints .u8 f], .vec false 5 (M) [.ints .u8 g]] ⟨some (N = M ∧ ∀ j, j < N → f j = g j), some ((N : Int) ≤ 9223372036854775807), .det (.val (.one (.bool (.lit true)))) ([.vec false 5 (N) [.ints .u8 f], .vec false 5 (M) [.ints .u8 g]])⟩ = (((!decide ((↑N : Int) = (↑M : Int))) = true → False ∧ (N = N ∧ ∀ (i : Nat), i < N → f i = f i) ∧ M = M ∧ ∀ (i : Nat), i < M → g i = g i) ∧ ((!decide ((↑N : Int) = (↑M : Int))) = false → (∃ (x : Nat), (x ≤ N ∧ ∀ (j : Nat), j < x → f j = g j) ∧ ((0 : Int) = (↑x : Int) ∧ (↑N : Int) = (↑N : Int) ∧ (↑M : Int) = (↑M : Int) ∧ (!decide ((↑N : Int) = (↑M : Int))) = !decide ((↑N : Int) = (↑M : Int))) ∧ (N = N ∧ ∀ (i : Nat), i < N → f i = f i) ∧ M = M ∧ ∀ (i : Nat), i < M → g i = g i) ∧ ∀ (x : Nat), (x ≤ N ∧ ∀ (j : Nat), j < x → f j = g j) → (decide ((↑x : Int) < (↑N : Int)) = true → ((0 : Int) ≤ (↑x : Int) ∧ (↑x : Int) < (↑N : Int)) ∧ (↑x : Int).toNat < N ∧ ((0 : Int) ≤ (↑x : Int) ∧ (↑x : Int) < (↑M : Int)) ∧ (↑x : Int).toNat < M ∧ ((!decide (f (↑x : Int).toNat = g (↑x : Int).toNat)) = true → False ∧ (N = N ∧ ∀ (i : Nat), i < N → f i = f i) ∧ M = M ∧ ∀ (i : Nat), i < M → g i = g i) ∧ ((!decide (f (↑x : Int).toNat = g (↑x : Int).toNat)) = false → ∃ (y : Nat), (y ≤ N ∧ ∀ (j : Nat), j < y → f j = g j) ∧ N - y < N - x ∧ (IntKind.i64.wrap ((↑x : Int) + (1 : Int)) = (↑y : Int) ∧ (↑N : Int) = (↑N : Int) ∧ (↑M : Int) = (↑M : Int) ∧ (!decide ((↑N : Int) = (↑M : Int))) = !decide ((↑N : Int) = (↑M : Int))) ∧ (N = N ∧ ∀ (i : Nat), i < N → f i = f i) ∧ M = M ∧ ∀ (i : Nat), i < M → g i = g i)) ∧ (decide ((↑x : Int) < (↑N : Int)) = false → (N = N ∧ ∀ (i : Nat), i < N → f i = f i) ∧ M = M ∧ ∀ (i : Nat), i < M → g i = g i))) from by kernel_rfl]
  obtain ⟨hl, he⟩ := hg
  subst hl
  refine ⟨fun h => by simp at h, fun _ => ⟨⟨0, ⟨Nat.zero_le _, fun j h => absurd h (Nat.not_lt_zero _)⟩, by simp⟩, fun x hx => ⟨fun h => ?_, fun h => by simp⟩⟩⟩
  have h : (x : Int) < (N : Int) := of_decide_eq_true h
  have hxN : x < N := by omega
  have hxe := he x hxN
  simp only [Int.toNat_natCast] at *
  refine ⟨⟨by omega, h⟩, hxN, ⟨by omega, h⟩, hxN, fun hb => ?_, fun _ => ⟨x + 1, ⟨by omega, fun j hj => he j (by omega)⟩, by omega, ?_⟩⟩
  · simp [hxe] at hb
  · rw [wrap_i64 (by omega) (by omega)]; simp
theorem eqVVC_p1 (N M : Nat) (f g : Nat → Int) (hg : ¬ (N = M ∧ ∀ j, j < N → f j = g j)) (hn : (N : Int) ≤ 9223372036854775807) : ∃ anns, fnVC Try.prog [] (callOf Try.prog [] []) anns Try.f26 ((Try.f26.body).getD .skip) [.val (.one (.vec 0)), .val (.one (.vec 1))] [.vec false 5 (N) [.ints .u8 f], .vec false 5 (M) [.ints .u8 g]] ⟨some (¬ (N = M ∧ ∀ j, j < N → f j = g j)), some ((N : Int) ≤ 9223372036854775807), .det (.val (.one (.bool (.lit false)))) ([.vec false 5 (N) [.ints .u8 f], .vec false 5 (M) [.ints .u8 g]])⟩ := by
  refine ⟨⟨[⟨Nat, fun σ x => setT [(5, .val (.one (.int .i64 (.tm ((x : Int))))))] σ, fun _ x => x ≤ N ∧ ∀ j, j < x → f j = g j, fun x => N - x⟩], [], [], [], [], []⟩, ?_⟩
  rw [show fnVC Try.prog [] (callOf Try.prog [] []) ⟨[⟨Nat, fun σ x => setT [(5, .val (.one (.int .i64 (.tm ((x : Int))))))] σ, fun _ x => x ≤ N ∧ ∀ j, j < x → f j = g j, fun x => N - x⟩], [], [], [], [], []⟩ Try.f26 ((Try.f26.body).getD .skip) [.val (.one (.vec 0)), .val (.one (.vec 1))] [.vec false 5 (N) [.ints .u8 f], .vec false 5 (M) [.ints .u8 g]] ⟨some (¬ (N = M ∧ ∀ j, j < N → f j = g j)), some ((N : Int) ≤ 9223372036854775807), .det (.val (.one (.bool (.lit false)))) ([.vec false 5 (N) [.ints .u8 f], .vec false 5 (M) [.ints .u8 g]])⟩ = (((!decide ((↑N : Int) = (↑M : Int))) = true → (N = N ∧ ∀ (i : Nat), i < N → f i = f i) ∧ M = M ∧ ∀ (i : Nat), i < M → g i = g i) ∧ ((!decide ((↑N : Int) = (↑M : Int))) = false → (∃ (x : Nat), (x ≤ N ∧ ∀ (j : Nat), j < x → f j = g j) ∧ ((0 : Int) = (↑x : Int) ∧ (↑N : Int) = (↑N : Int) ∧ (↑M : Int) = (↑M : Int) ∧ (!decide ((↑N : Int) = (↑M : Int))) = !decide ((↑N : Int) = (↑M : Int))) ∧ (N = N ∧ ∀ (i : Nat), i < N → f i = f i) ∧ M = M ∧ ∀ (i : Nat), i < M → g i = g i) ∧ ∀ (x : Nat), (x ≤ N ∧ ∀ (j : Nat), j < x → f j = g j) → (decide ((↑x : Int) < (↑N : Int)) = true → ((0 : Int) ≤ (↑x : Int) ∧ (↑x : Int) < (↑N : Int)) ∧ (↑x : Int).toNat < N ∧ ((0 : Int) ≤ (↑x : Int) ∧ (↑x : Int) < (↑M : Int)) ∧ (↑x : Int).toNat < M ∧ ((!decide (f (↑x : Int).toNat = g (↑x : Int).toNat)) = true → (N = N ∧ ∀ (i : Nat), i < N → f i = f i) ∧ M = M ∧ ∀ (i : Nat), i < M → g i = g i) ∧ ((!decide (f (↑x : Int).toNat = g (↑x : Int).toNat)) = false → ∃ (y : Nat), (y ≤ N ∧ ∀ (j : Nat), j < y → f j = g j) ∧ N - y < N - x ∧ (IntKind.i64.wrap ((↑x : Int) + (1 : Int)) = (↑y : Int) ∧ (↑N : Int) = (↑N : Int) ∧ (↑M : Int) = (↑M : Int) ∧ (!decide ((↑N : Int) = (↑M : Int))) = !decide ((↑N : Int) = (↑M : Int))) ∧ (N = N ∧ ∀ (i : Nat), i < N → f i = f i) ∧ M = M ∧ ∀ (i : Nat), i < M → g i = g i)) ∧ (decide ((↑x : Int) < (↑N : Int)) = false → False ∧ (N = N ∧ ∀ (i : Nat), i < N → f i = f i) ∧ M = M ∧ ∀ (i : Nat), i < M → g i = g i))) from by kernel_rfl]
  refine ⟨fun _ => by simp, fun hne => ⟨⟨0, ⟨Nat.zero_le _, fun j h => absurd h (Nat.not_lt_zero _)⟩, by simp⟩, fun x hx => ⟨fun h => ?_, fun h => ?_⟩⟩⟩
  · have h : (x : Int) < (N : Int) := of_decide_eq_true h
    have hxN : x < N := by omega
    have hNM : (N : Int) = (M : Int) := by simpa using hne
    simp only [Int.toNat_natCast] at *
    refine ⟨⟨by omega, h⟩, hxN, ⟨by omega, by omega⟩, by omega, fun hb => by simp, fun hb => ⟨x + 1, ⟨by omega, fun j hj => ?_⟩, by omega, ?_⟩⟩
    · by_cases e : j = x
      · subst e; simpa using hb
      · exact hx.2 j (by omega)
    · rw [wrap_i64 (by omega) (by omega)]; simp
  · have h : ¬ (x : Int) < (N : Int) := of_decide_eq_false h
    have hNM : (N : Int) = (M : Int) := by simpa using hne
    have : x = N := by have := hx.1; omega
    subst this
    exact absurd ⟨by omega, hx.2⟩ hg
theorem eqVVC_ch (N M : Nat) (f g : Nat → Int) : ∃ r ∈ ([⟨some (N = M ∧ ∀ j, j < N → f j = g j), some ((N : Int) ≤ 9223372036854775807), .det (.val (.one (.bool (.lit true)))) ([.vec false 5 (N) [.ints .u8 f], .vec false 5 (M) [.ints .u8 g]])⟩, ⟨some (¬ (N = M ∧ ∀ j, j < N → f j = g j)), some ((N : Int) ≤ 9223372036854775807), .det (.val (.one (.bool (.lit false)))) ([.vec false 5 (N) [.ints .u8 f], .vec false 5 (M) [.ints .u8 g]])⟩] : List Res), holdsP r.g ∧ (holdsP r.need → r.r.shaped [.vec false 5 (N) [.ints .u8 f], .vec false 5 (M) [.ints .u8 g]] ∧ ∃ anns, fnVC Try.prog [] (callOf Try.prog [] []) anns Try.f26 ((Try.f26.body).getD .skip) [.val (.one (.vec 0)), .val (.one (.vec 1))] [.vec false 5 (N) [.ints .u8 f], .vec false 5 (M) [.ints .u8 g]] r) := by
  have hx : (N = M ∧ ∀ j, j < N → f j = g j) ∨ (¬ (N = M ∧ ∀ j, j < N → f j = g j)) := by
    exact eq_or N M f g
  rcases hx with h | h
  · exact ⟨_, List.mem_cons_self, h, fun hn => ⟨trivial, eqVVC_p0 N M f g h hn⟩⟩
  · exact ⟨_, (List.mem_cons_of_mem _ List.mem_cons_self), h, fun hn => ⟨trivial, eqVVC_p1 N M f g h hn⟩⟩
theorem eqVVC_ok : eqVVC.ok Try.prog [] := by
  refine con_ok (cs := []) (body := (Try.f26.body).getD .skip) ?_ Try.func26 rfl ?_
  · intro c h; cases h
  · intro args h l hl
    unfold eqVVC at hl
    dsimp only at hl
    split at hl
    · cases hl
      exact eqVVC_ch _ _ _ _
    · cases hl
noncomputable def intsC : Con := ⟨23, fun args h => match args, h with
  | [.val (.one (.vec 0)), .val (.one (.vec 1))], [.vec false 3 (N) [.ints .i64 f], .vec false 3 (M) [.ints .i64 g]] => some [⟨some (N = M ∧ ∀ j, j < N → f j = g j), some ((N : Int) ≤ 9223372036854775807), .det (.val (.one (.bool (.lit true)))) ([.vec false 3 (N) [.ints .i64 f], .vec false 3 (M) [.ints .i64 g]])⟩, ⟨some (¬ (N = M ∧ ∀ j, j < N → f j = g j)), some ((N : Int) ≤ 9223372036854775807), .det (.val (.one (.bool (.lit false)))) ([.vec false 3 (N) [.ints .i64 f], .vec false 3 (M) [.ints .i64 g]])⟩]
  | _, _ => none, true⟩
theorem intsC_p0 (N M : Nat) (f g : Nat → Int) (hg : N = M ∧ ∀ j, j < N → f j = g j) (hn : (N : Int) ≤ 9223372036854775807) : ∃ anns, fnVC Try.prog [] (callOf Try.prog [] []) anns Try.f23 ((Try.f23.body).getD .skip) [.val (.one (.vec 0)), .val (.one (.vec 1))] [.vec false 3 (N) [.ints .i64 f], .vec false 3 (M) [.ints .i64 g]] ⟨some (N = M ∧ ∀ j, j < N → f j = g j), some ((N : Int) ≤ 9223372036854775807), .det (.val (.one (.bool (.lit true)))) ([.vec false 3 (N) [.ints .i64 f], .vec false 3 (M) [.ints .i64 g]])⟩ := by
  refine ⟨⟨[⟨Nat, fun σ x => setT [(5, .val (.one (.int .i64 (.tm ((x : Int))))))] σ, fun _ x => x ≤ N ∧ ∀ j, j < x → f j = g j, fun x => N - x⟩], [], [], [], [], []⟩, ?_⟩
  rw [show fnVC Try.prog [] (callOf Try.prog [] []) ⟨[⟨Nat, fun σ x => setT [(5, .val (.one (.int .i64 (.tm ((x : Int))))))] σ, fun _ x => x ≤ N ∧ ∀ j, j < x → f j = g j, fun x => N - x⟩], [], [], [], [], []⟩ Try.f23 ((Try.f23.body).getD .skip) [.val (.one (.vec 0)), .val (.one (.vec 1))] [.vec false 3 (N) [.ints .i64 f], .vec false 3 (M) [.ints .i64 g]] ⟨some (N = M ∧ ∀ j, j < N → f j = g j), some ((N : Int) ≤ 9223372036854775807), .det (.val (.one (.bool (.lit true)))) ([.vec false 3 (N) [.ints .i64 f], .vec false 3 (M) [.ints .i64 g]])⟩ = (((!decide ((↑N : Int) = (↑M : Int))) = true → False ∧ (N = N ∧ ∀ (i : Nat), i < N → f i = f i) ∧ M = M ∧ ∀ (i : Nat), i < M → g i = g i) ∧ ((!decide ((↑N : Int) = (↑M : Int))) = false → (∃ (x : Nat), (x ≤ N ∧ ∀ (j : Nat), j < x → f j = g j) ∧ ((0 : Int) = (↑x : Int) ∧ (↑N : Int) = (↑N : Int) ∧ (↑M : Int) = (↑M : Int) ∧ (!decide ((↑N : Int) = (↑M : Int))) = !decide ((↑N : Int) = (↑M : Int))) ∧ (N = N ∧ ∀ (i : Nat), i < N → f i = f i) ∧ M = M ∧ ∀ (i : Nat), i < M → g i = g i) ∧ ∀ (x : Nat), (x ≤ N ∧ ∀ (j : Nat), j < x → f j = g j) → (decide ((↑x : Int) < (↑N : Int)) = true → ((0 : Int) ≤ (↑x : Int) ∧ (↑x : Int) < (↑N : Int)) ∧ (↑x : Int).toNat < N ∧ ((0 : Int) ≤ (↑x : Int) ∧ (↑x : Int) < (↑M : Int)) ∧ (↑x : Int).toNat < M ∧ ((!decide (f (↑x : Int).toNat = g (↑x : Int).toNat)) = true → False ∧ (N = N ∧ ∀ (i : Nat), i < N → f i = f i) ∧ M = M ∧ ∀ (i : Nat), i < M → g i = g i) ∧ ((!decide (f (↑x : Int).toNat = g (↑x : Int).toNat)) = false → ∃ (y : Nat), (y ≤ N ∧ ∀ (j : Nat), j < y → f j = g j) ∧ N - y < N - x ∧ (IntKind.i64.wrap ((↑x : Int) + (1 : Int)) = (↑y : Int) ∧ (↑N : Int) = (↑N : Int) ∧ (↑M : Int) = (↑M : Int) ∧ (!decide ((↑N : Int) = (↑M : Int))) = !decide ((↑N : Int) = (↑M : Int))) ∧ (N = N ∧ ∀ (i : Nat), i < N → f i = f i) ∧ M = M ∧ ∀ (i : Nat), i < M → g i = g i)) ∧ (decide ((↑x : Int) < (↑N : Int)) = false → (N = N ∧ ∀ (i : Nat), i < N → f i = f i) ∧ M = M ∧ ∀ (i : Nat), i < M → g i = g i))) from by kernel_rfl]
  obtain ⟨hl, he⟩ := hg
  subst hl
  refine ⟨fun h => by simp at h, fun _ => ⟨⟨0, ⟨Nat.zero_le _, fun j h => absurd h (Nat.not_lt_zero _)⟩, by simp⟩, fun x hx => ⟨fun h => ?_, fun h => by simp⟩⟩⟩
  have h : (x : Int) < (N : Int) := of_decide_eq_true h
  have hxN : x < N := by omega
  have hxe := he x hxN
  simp only [Int.toNat_natCast] at *
  refine ⟨⟨by omega, h⟩, hxN, ⟨by omega, h⟩, hxN, fun hb => ?_, fun _ => ⟨x + 1, ⟨by omega, fun j hj => he j (by omega)⟩, by omega, ?_⟩⟩
  · simp [hxe] at hb
  · rw [wrap_i64 (by omega) (by omega)]; simp
theorem intsC_p1 (N M : Nat) (f g : Nat → Int) (hg : ¬ (N = M ∧ ∀ j, j < N → f j = g j)) (hn : (N : Int) ≤ 9223372036854775807) : ∃ anns, fnVC Try.prog [] (callOf Try.prog [] []) anns Try.f23 ((Try.f23.body).getD .skip) [.val (.one (.vec 0)), .val (.one (.vec 1))] [.vec false 3 (N) [.ints .i64 f], .vec false 3 (M) [.ints .i64 g]] ⟨some (¬ (N = M ∧ ∀ j, j < N → f j = g j)), some ((N : Int) ≤ 9223372036854775807), .det (.val (.one (.bool (.lit false)))) ([.vec false 3 (N) [.ints .i64 f], .vec false 3 (M) [.ints .i64 g]])⟩ := by
  refine ⟨⟨[⟨Nat, fun σ x => setT [(5, .val (.one (.int .i64 (.tm ((x : Int))))))] σ, fun _ x => x ≤ N ∧ ∀ j, j < x → f j = g j, fun x => N - x⟩], [], [], [], [], []⟩, ?_⟩
  rw [show fnVC Try.prog [] (callOf Try.prog [] []) ⟨[⟨Nat, fun σ x => setT [(5, .val (.one (.int .i64 (.tm ((x : Int))))))] σ, fun _ x => x ≤ N ∧ ∀ j, j < x → f j = g j, fun x => N - x⟩], [], [], [], [], []⟩ Try.f23 ((Try.f23.body).getD .skip) [.val (.one (.vec 0)), .val (.one (.vec 1))] [.vec false 3 (N) [.ints .i64 f], .vec false 3 (M) [.ints .i64 g]] ⟨some (¬ (N = M ∧ ∀ j, j < N → f j = g j)), some ((N : Int) ≤ 9223372036854775807), .det (.val (.one (.bool (.lit false)))) ([.vec false 3 (N) [.ints .i64 f], .vec false 3 (M) [.ints .i64 g]])⟩ = (((!decide ((↑N : Int) = (↑M : Int))) = true → (N = N ∧ ∀ (i : Nat), i < N → f i = f i) ∧ M = M ∧ ∀ (i : Nat), i < M → g i = g i) ∧ ((!decide ((↑N : Int) = (↑M : Int))) = false → (∃ (x : Nat), (x ≤ N ∧ ∀ (j : Nat), j < x → f j = g j) ∧ ((0 : Int) = (↑x : Int) ∧ (↑N : Int) = (↑N : Int) ∧ (↑M : Int) = (↑M : Int) ∧ (!decide ((↑N : Int) = (↑M : Int))) = !decide ((↑N : Int) = (↑M : Int))) ∧ (N = N ∧ ∀ (i : Nat), i < N → f i = f i) ∧ M = M ∧ ∀ (i : Nat), i < M → g i = g i) ∧ ∀ (x : Nat), (x ≤ N ∧ ∀ (j : Nat), j < x → f j = g j) → (decide ((↑x : Int) < (↑N : Int)) = true → ((0 : Int) ≤ (↑x : Int) ∧ (↑x : Int) < (↑N : Int)) ∧ (↑x : Int).toNat < N ∧ ((0 : Int) ≤ (↑x : Int) ∧ (↑x : Int) < (↑M : Int)) ∧ (↑x : Int).toNat < M ∧ ((!decide (f (↑x : Int).toNat = g (↑x : Int).toNat)) = true → (N = N ∧ ∀ (i : Nat), i < N → f i = f i) ∧ M = M ∧ ∀ (i : Nat), i < M → g i = g i) ∧ ((!decide (f (↑x : Int).toNat = g (↑x : Int).toNat)) = false → ∃ (y : Nat), (y ≤ N ∧ ∀ (j : Nat), j < y → f j = g j) ∧ N - y < N - x ∧ (IntKind.i64.wrap ((↑x : Int) + (1 : Int)) = (↑y : Int) ∧ (↑N : Int) = (↑N : Int) ∧ (↑M : Int) = (↑M : Int) ∧ (!decide ((↑N : Int) = (↑M : Int))) = !decide ((↑N : Int) = (↑M : Int))) ∧ (N = N ∧ ∀ (i : Nat), i < N → f i = f i) ∧ M = M ∧ ∀ (i : Nat), i < M → g i = g i)) ∧ (decide ((↑x : Int) < (↑N : Int)) = false → False ∧ (N = N ∧ ∀ (i : Nat), i < N → f i = f i) ∧ M = M ∧ ∀ (i : Nat), i < M → g i = g i))) from by kernel_rfl]
  refine ⟨fun _ => by simp, fun hne => ⟨⟨0, ⟨Nat.zero_le _, fun j h => absurd h (Nat.not_lt_zero _)⟩, by simp⟩, fun x hx => ⟨fun h => ?_, fun h => ?_⟩⟩⟩
  · have h : (x : Int) < (N : Int) := of_decide_eq_true h
    have hxN : x < N := by omega
    have hNM : (N : Int) = (M : Int) := by simpa using hne
    simp only [Int.toNat_natCast] at *
    refine ⟨⟨by omega, h⟩, hxN, ⟨by omega, by omega⟩, by omega, fun hb => by simp, fun hb => ⟨x + 1, ⟨by omega, fun j hj => ?_⟩, by omega, ?_⟩⟩
    · by_cases e : j = x
      · subst e; simpa using hb
      · exact hx.2 j (by omega)
    · rw [wrap_i64 (by omega) (by omega)]; simp
  · have h : ¬ (x : Int) < (N : Int) := of_decide_eq_false h
    have hNM : (N : Int) = (M : Int) := by simpa using hne
    have : x = N := by have := hx.1; omega
    subst this
    exact absurd ⟨by omega, hx.2⟩ hg
theorem intsC_ch (N M : Nat) (f g : Nat → Int) : ∃ r ∈ ([⟨some (N = M ∧ ∀ j, j < N → f j = g j), some ((N : Int) ≤ 9223372036854775807), .det (.val (.one (.bool (.lit true)))) ([.vec false 3 (N) [.ints .i64 f], .vec false 3 (M) [.ints .i64 g]])⟩, ⟨some (¬ (N = M ∧ ∀ j, j < N → f j = g j)), some ((N : Int) ≤ 9223372036854775807), .det (.val (.one (.bool (.lit false)))) ([.vec false 3 (N) [.ints .i64 f], .vec false 3 (M) [.ints .i64 g]])⟩] : List Res), holdsP r.g ∧ (holdsP r.need → r.r.shaped [.vec false 3 (N) [.ints .i64 f], .vec false 3 (M) [.ints .i64 g]] ∧ ∃ anns, fnVC Try.prog [] (callOf Try.prog [] []) anns Try.f23 ((Try.f23.body).getD .skip) [.val (.one (.vec 0)), .val (.one (.vec 1))] [.vec false 3 (N) [.ints .i64 f], .vec false 3 (M) [.ints .i64 g]] r) := by
  have hx : (N = M ∧ ∀ j, j < N → f j = g j) ∨ (¬ (N = M ∧ ∀ j, j < N → f j = g j)) := by
    exact eq_or N M f g
  rcases hx with h | h
  · exact ⟨_, List.mem_cons_self, h, fun hn => ⟨trivial, intsC_p0 N M f g h hn⟩⟩
  · exact ⟨_, (List.mem_cons_of_mem _ List.mem_cons_self), h, fun hn => ⟨trivial, intsC_p1 N M f g h hn⟩⟩
theorem intsC_ok : intsC.ok Try.prog [] := by
  refine con_ok (cs := []) (body := (Try.f23.body).getD .skip) ?_ Try.func23 rfl ?_
  · intro c h; cases h
  · intro args h l hl
    unfold intsC at hl
    dsimp only at hl
    split at hl
    · cases hl
      exact intsC_ch _ _ _ _
    · cases hl
noncomputable def eqSFC : Con := ⟨26, fun args h => match args, h with
  | [.val (.one (.sub 0 1 lo c)), .val (.one (.fsub 1 b0 o d))], [.vec false 5 (N) [.ints .u8 f], .rof .u8 rd rv rf] => some [⟨none, some (d = c ∧ lo + c ≤ N ∧ (N : Int) ≤ 9223372036854775807 ∧ (0 < c → rd b0 = true) ∧ (∀ j, j < c → rv b0 (o + j) = true) ∧ ∀ j, j < c → f (lo + j) = rf b0 (o + j)), .det (.val (.one (.bool (.lit true)))) ([.vec false 5 (N) [.ints .u8 f], .rof .u8 rd rv rf])⟩]
  | _, _ => none, true⟩
theorem eqSFC_p0 (N lo c d : Nat) (f : Nat → Int) (b0 o : Nat) (rd : Nat → Bool) (rv : Nat → Nat → Bool) (rf : Nat → Nat → Int) (hn : d = c ∧ lo + c ≤ N ∧ (N : Int) ≤ 9223372036854775807 ∧ (0 < c → rd b0 = true) ∧ (∀ j, j < c → rv b0 (o + j) = true) ∧ ∀ j, j < c → f (lo + j) = rf b0 (o + j)) : ∃ anns, fnVC Try.prog [] (callOf Try.prog [] []) anns Try.f26 ((Try.f26.body).getD .skip) [.val (.one (.sub 0 1 lo c)), .val (.one (.fsub 1 b0 o d))] [.vec false 5 (N) [.ints .u8 f], .rof .u8 rd rv rf] ⟨none, some (d = c ∧ lo + c ≤ N ∧ (N : Int) ≤ 9223372036854775807 ∧ (0 < c → rd b0 = true) ∧ (∀ j, j < c → rv b0 (o + j) = true) ∧ ∀ j, j < c → f (lo + j) = rf b0 (o + j)), .det (.val (.one (.bool (.lit true)))) ([.vec false 5 (N) [.ints .u8 f], .rof .u8 rd rv rf])⟩ := by
  refine ⟨⟨[⟨Nat, fun σ x => setT [(5, .val (.one (.int .i64 (.tm ((x : Int))))))] σ, fun _ x => x ≤ c ∧ ∀ j, j < x → f (lo + j) = rf b0 (o + j), fun x => c - x⟩], [], [], [], [], []⟩, ?_⟩
  rw [show fnVC Try.prog [] (callOf Try.prog [] []) ⟨[⟨Nat, fun σ x => setT [(5, .val (.one (.int .i64 (.tm ((x : Int))))))] σ, fun _ x => x ≤ c ∧ ∀ j, j < x → f (lo + j) = rf b0 (o + j), fun x => c - x⟩], [], [], [], [], []⟩ Try.f26 ((Try.f26.body).getD .skip) [.val (.one (.sub 0 1 lo c)), .val (.one (.fsub 1 b0 o d))] [.vec false 5 (N) [.ints .u8 f], .rof .u8 rd rv rf] ⟨none, some (d = c ∧ lo + c ≤ N ∧ (N : Int) ≤ 9223372036854775807 ∧ (0 < c → rd b0 = true) ∧ (∀ j, j < c → rv b0 (o + j) = true) ∧ ∀ j, j < c → f (lo + j) = rf b0 (o + j)), .det (.val (.one (.bool (.lit true)))) ([.vec false 5 (N) [.ints .u8 f], .rof .u8 rd rv rf])⟩ = (((!decide ((↑c : Int) = (↑d : Int))) = true → False ∧ (N = N ∧ ∀ (i : Nat), i < N → f i = f i) ∧ ∀ (b : Nat), rd b = true → rd b = true ∧ ∀ (j : Nat), rv b j = true → rv b j = true ∧ rf b j = rf b j) ∧ ((!decide ((↑c : Int) = (↑d : Int))) = false → (∃ (x : Nat), (x ≤ c ∧ ∀ (j : Nat), j < x → f (lo + j) = rf b0 (o + j)) ∧ (L.sub (nat_lit 0) (1 : Nat) lo c = L.sub (0 : Nat) (1 : Nat) lo c ∧ (b0 = b0 ∧ o = o ∧ d = d) ∧ (0 : Int) = (↑x : Int) ∧ L.sub (nat_lit 0) (1 : Nat) lo c = L.sub (0 : Nat) (1 : Nat) lo c ∧ (↑c : Int) = (↑c : Int) ∧ (b0 = b0 ∧ o = o ∧ d = d) ∧ (↑d : Int) = (↑d : Int) ∧ (!decide ((↑c : Int) = (↑d : Int))) = !decide ((↑c : Int) = (↑d : Int))) ∧ (N = N ∧ ∀ (i : Nat), i < N → f i = f i) ∧ ∀ (b : Nat), rd b = true → rd b = true ∧ ∀ (j : Nat), rv b j = true → rv b j = true ∧ rf b j = rf b j) ∧ ∀ (x : Nat), (x ≤ c ∧ ∀ (j : Nat), j < x → f (lo + j) = rf b0 (o + j)) → (decide ((↑x : Int) < (↑c : Int)) = true → ((0 : Int) ≤ (↑x : Int) ∧ (↑x : Int) < (↑c : Int)) ∧ lo + (↑x : Int).toNat < N ∧ ((0 : Int) ≤ (↑x : Int) ∧ (↑x : Int) < (↑d : Int)) ∧ (rd b0 = true ∧ rv b0 (o + (↑x : Int).toNat) = true) ∧ ((!decide (f (lo + (↑x : Int).toNat) = rf b0 (o + (↑x : Int).toNat))) = true → False ∧ (N = N ∧ ∀ (i : Nat), i < N → f i = f i) ∧ ∀ (b : Nat), rd b = true → rd b = true ∧ ∀ (j : Nat), rv b j = true → rv b j = true ∧ rf b j = rf b j) ∧ ((!decide (f (lo + (↑x : Int).toNat) = rf b0 (o + (↑x : Int).toNat))) = false → ∃ (y : Nat), (y ≤ c ∧ ∀ (j : Nat), j < y → f (lo + j) = rf b0 (o + j)) ∧ c - y < c - x ∧ (L.sub (nat_lit 0) (1 : Nat) lo c = L.sub (0 : Nat) (1 : Nat) lo c ∧ (b0 = b0 ∧ o = o ∧ d = d) ∧ IntKind.i64.wrap ((↑x : Int) + (1 : Int)) = (↑y : Int) ∧ L.sub (nat_lit 0) (1 : Nat) lo c = L.sub (0 : Nat) (1 : Nat) lo c ∧ (↑c : Int) = (↑c : Int) ∧ (b0 = b0 ∧ o = o ∧ d = d) ∧ (↑d : Int) = (↑d : Int) ∧ (!decide ((↑c : Int) = (↑d : Int))) = !decide ((↑c : Int) = (↑d : Int))) ∧ (N = N ∧ ∀ (i : Nat), i < N → f i = f i) ∧ ∀ (b : Nat), rd b = true → rd b = true ∧ ∀ (j : Nat), rv b j = true → rv b j = true ∧ rf b j = rf b j)) ∧ (decide ((↑x : Int) < (↑c : Int)) = false → (N = N ∧ ∀ (i : Nat), i < N → f i = f i) ∧ ∀ (b : Nat), rd b = true → rd b = true ∧ ∀ (j : Nat), rv b j = true → rv b j = true ∧ rf b j = rf b j))) from by kernel_rfl]
  obtain ⟨hd, hN, hN2, hrd, hv, he⟩ := hn
  subst hd
  refine ⟨fun h => by simp at h, fun _ => ⟨⟨0, ⟨Nat.zero_le _, fun j h => absurd h (Nat.not_lt_zero _)⟩, by simp⟩, fun x hx => ⟨fun h => ?_, fun h => by simp⟩⟩⟩
  have h : (x : Int) < (d : Int) := of_decide_eq_true h
  have hxN : x < d := by omega
  have hxe := he x hxN
  simp only [Int.toNat_natCast] at *
  refine ⟨⟨by omega, h⟩, by omega, ⟨by omega, h⟩, ⟨hrd (by omega), hv x hxN⟩, fun hb => ?_, fun _ => ⟨x + 1, ⟨by omega, fun j hj => he j (by omega)⟩, by omega, ?_⟩⟩
  · simp [hxe] at hb
  · rw [wrap_i64 (by omega) (by omega)]; simp
theorem eqSFC_ch (N lo c d : Nat) (f : Nat → Int) (b0 o : Nat) (rd : Nat → Bool) (rv : Nat → Nat → Bool) (rf : Nat → Nat → Int) : ∃ r ∈ ([⟨none, some (d = c ∧ lo + c ≤ N ∧ (N : Int) ≤ 9223372036854775807 ∧ (0 < c → rd b0 = true) ∧ (∀ j, j < c → rv b0 (o + j) = true) ∧ ∀ j, j < c → f (lo + j) = rf b0 (o + j)), .det (.val (.one (.bool (.lit true)))) ([.vec false 5 (N) [.ints .u8 f], .rof .u8 rd rv rf])⟩] : List Res), holdsP r.g ∧ (holdsP r.need → r.r.shaped [.vec false 5 (N) [.ints .u8 f], .rof .u8 rd rv rf] ∧ ∃ anns, fnVC Try.prog [] (callOf Try.prog [] []) anns Try.f26 ((Try.f26.body).getD .skip) [.val (.one (.sub 0 1 lo c)), .val (.one (.fsub 1 b0 o d))] [.vec false 5 (N) [.ints .u8 f], .rof .u8 rd rv rf] r) := by
  exact ⟨_, List.mem_cons_self, trivial, fun hn => ⟨trivial, eqSFC_p0 N lo c d f b0 o rd rv rf hn⟩⟩
theorem eqSFC_ok : eqSFC.ok Try.prog [] := by
  refine con_ok (cs := []) (body := (Try.f26.body).getD .skip) ?_ Try.func26 rfl ?_
  · intro c h; cases h
  · intro args h l hl
    unfold eqSFC at hl
    dsimp only at hl
    split at hl
    · cases hl
      exact eqSFC_ch _ _ _ _ _ _ _ _ _ _
    · cases hl
noncomputable def roomC : Con := ⟨40, fun args h => match args, h with
  | [.val (.one (.fsub 0 b0 o c))], [.rof .u8 rd rv rf] => some [⟨none, some (c ≤ 140737488351232 ∧ rd b0 = true ∧ ∀ j, j < c → rv b0 (o + j) = true), .det (.val (.one (.vec 1))) ([.rof .u8 rd rv rf, .vec true 5 (c + 2) [.ints .u8 fun i => if i < c then rf b0 (o + i) else if i = c then 165 else 90]])⟩]
  | _, _ => none, true⟩
theorem roomC_p0 (b0 o c : Nat) (rd : Nat → Bool) (rv : Nat → Nat → Bool) (rf : Nat → Nat → Int) (hn : c ≤ 140737488351232 ∧ rd b0 = true ∧ ∀ j, j < c → rv b0 (o + j) = true) : ∃ anns, fnVC Try.prog [] (callOf Try.prog [] []) anns Try.f40 ((Try.f40.body).getD .skip) [.val (.one (.fsub 0 b0 o c))] [.rof .u8 rd rv rf] ⟨none, some (c ≤ 140737488351232 ∧ rd b0 = true ∧ ∀ j, j < c → rv b0 (o + j) = true), .det (.val (.one (.vec 1))) ([.rof .u8 rd rv rf, .vec true 5 (c + 2) [.ints .u8 fun i => if i < c then rf b0 (o + i) else if i = c then 165 else 90]])⟩ := by
  refine ⟨⟨[], [], [], [], [], []⟩, ?_⟩
  rw [show fnVC Try.prog [] (callOf Try.prog [] []) ⟨[], [], [], [], [], []⟩ Try.f40 ((Try.f40.body).getD .skip) [.val (.one (.fsub 0 b0 o c))] [.rof .u8 rd rv rf] ⟨none, some (c ≤ 140737488351232 ∧ rd b0 = true ∧ ∀ j, j < c → rv b0 (o + j) = true), .det (.val (.one (.vec 1))) ([.rof .u8 rd rv rf, .vec true 5 (c + 2) [.ints .u8 fun i => if i < c then rf b0 (o + i) else if i = c then 165 else 90]])⟩ = (((0 : Int) ≤ (0 : Int) ∧ (0 : Int) ≤ IntKind.i64.wrap ((↑c : Int) + (2 : Int)) ∧ (IntKind.i64.wrap ((↑c : Int) + (2 : Int))).toNat ≤ (281474976710656 : Nat)) ∧ ((rd b0 = true ∧ (∀ (i : Nat), i < c → rv b0 (o + i) = true) ∧ c ≤ (9223372036854775807 : Nat)) ∧ ((0 : Nat) + c + ((0 : Nat) + c) / (4 : Nat) + (192 : Nat)) * (1 : Nat) ≤ (281474976710656 : Nat)) ∧ ((0 : Nat) + c + (2 : Nat) + ((0 : Nat) + c + (2 : Nat)) / (4 : Nat) + (192 : Nat)) * (1 : Nat) ≤ (281474976710656 : Nat) ∧ (SubB rd rv rf) ∧ (0 : Nat) + c + (2 : Nat) = c + (2 : Nat) ∧ ∀ (i : Nat), i < (0 : Nat) + c + (2 : Nat) → appN (appN (fun (x : Nat) => (0 : Int)) (0 : Nat) fun (i : Nat) => rf b0 (o + i)) ((0 : Nat) + c) (fun (i : Nat) => Option.rec (0 : Int) (fun (val : N) => (fun (e : N) => e.v) val) [N.lit (165 : Int), N.lit (90 : Int)][i]?) i = if i < c then rf b0 (o + i) else if i = c then (165 : Int) else (90 : Int)) from by kernel_rfl]
  obtain ⟨hc, hd, hv⟩ := hn
  have e : IntKind.i64.wrap ((c : Int) + 2) = (c : Int) + 2 := wrap_i64 (by omega) (by omega)
  rw [e]
  refine ⟨⟨by omega, by omega, by omega⟩, ⟨⟨hd, hv, by omega⟩, by omega⟩, by omega, SubB.refl _ _ _, by omega, fun i hi => ?_⟩
  unfold appN
  by_cases h1 : i < c
  · rw [if_pos (by omega), if_neg (by omega), if_pos h1]; simp
  · rw [if_neg (by omega), if_neg h1]
    by_cases h2 : i = c
    · subst h2; simp [N.v]
    · have : i = c + 1 := by omega
      subst this
      simp [N.v]
theorem roomC_ch (b0 o c : Nat) (rd : Nat → Bool) (rv : Nat → Nat → Bool) (rf : Nat → Nat → Int) : ∃ r ∈ ([⟨none, some (c ≤ 140737488351232 ∧ rd b0 = true ∧ ∀ j, j < c → rv b0 (o + j) = true), .det (.val (.one (.vec 1))) ([.rof .u8 rd rv rf, .vec true 5 (c + 2) [.ints .u8 fun i => if i < c then rf b0 (o + i) else if i = c then 165 else 90]])⟩] : List Res), holdsP r.g ∧ (holdsP r.need → r.r.shaped [.rof .u8 rd rv rf] ∧ ∃ anns, fnVC Try.prog [] (callOf Try.prog [] []) anns Try.f40 ((Try.f40.body).getD .skip) [.val (.one (.fsub 0 b0 o c))] [.rof .u8 rd rv rf] r) := by
  exact ⟨_, List.mem_cons_self, trivial, fun hn => ⟨trivial, roomC_p0 b0 o c rd rv rf hn⟩⟩
theorem roomC_ok : roomC.ok Try.prog [] := by
  refine con_ok (cs := []) (body := (Try.f40.body).getD .skip) ?_ Try.func40 rfl ?_
  · intro c h; cases h
  · intro args h l hl
    unfold roomC at hl
    dsimp only at hl
    split at hl
    · cases hl
      exact roomC_ch _ _ _ _ _ _
    · cases hl
noncomputable def wordsCA (_t : T3) (_m0 _m1 _m2 : Int) (_l0 _l1 _l2 : Nat → Nat) (kd w N pa v : Int) (b0 o c : Nat) (_rd : Nat → Bool) (_rv : Nat → Nat → Bool) (_rf : Nat → Nat → Int) : List V := [.val (.one (.ptr 0 0)), .val (.agg [.int .i64 (.tm kd), .int .i64 (.tm w), .int .i64 (.tm N), .int .u64 (.tm pa), .int .u32 (.tm v), .fsub 19 b0 o c])]
noncomputable def wordsCH (t : T3) (_m0 _m1 _m2 : Int) (l0 l1 l2 : Nat → Nat) (_kd _w _N _pa _v : Int) (_b0 _o _c : Nat) (rd : Nat → Bool) (rv : Nat → Nat → Bool) (rf : Nat → Nat → Int) : List Ob := [.mem true [.cells [.ptr 1 0, .ptr 4 0, .ptr 7 0, .ptr 10 0, .ptr 13 0, .ptr 16 0]], .mem true [.cells [.int .i64 (.tm (t.N0)), .map 2]], .mp true .i64 false t.P0.has [.fptrs 3 t.P0.bb], .fam true 80 .u8 t.P0.ln t.P0.dom t.P0.g, .mem true [.cells [.int .i64 (.tm (t.N1)), .map 5]], .mp true .i64 false t.P1.has [.fptrs 6 t.P1.bb], .fam true 80 .u8 t.P1.ln t.P1.dom t.P1.g, .mem true [.cells [.int .i64 (.tm (t.N2)), .map 8]], .mp true .i64 false t.P2.has [.fptrs 9 t.P2.bb], .fam true 80 .u8 t.P2.ln t.P2.dom t.P2.g, .mem true [.cells [.int .i64 (.tm (t.N0)), .vec 11]], .vec true 98 t.R0.cnt [.ints .i64 t.R0.no, .fsubs 12 t.R0.bb l0 t.R0.sl], .fam true 5 .u8 t.R0.ln t.R0.dom t.R0.g, .mem true [.cells [.int .i64 (.tm (t.N1)), .vec 14]], .vec true 98 t.R1.cnt [.ints .i64 t.R1.no, .fsubs 15 t.R1.bb l1 t.R1.sl], .fam true 5 .u8 t.R1.ln t.R1.dom t.R1.g, .mem true [.cells [.int .i64 (.tm (t.N2)), .vec 17]], .vec true 98 t.R2.cnt [.ints .i64 t.R2.no, .fsubs 18 t.R2.bb l2 t.R2.sl], .fam true 5 .u8 t.R2.ln t.R2.dom t.R2.g, .rof .u8 rd rv rf]
noncomputable def wordsCQ (t : T3) (m0 m1 m2 : Int) (l0 l1 l2 : Nat → Nat) (_kd _w _N pa v : Int) (_b0 _o _c : Nat) (rd : Nat → Bool) (rv : Nat → Nat → Bool) (rf : Nat → Nat → Int) : Res := ⟨none, some (m0 = t.N0 ∧ m1 = t.N1 ∧ m2 = t.N2 ∧ t.Inv ∧ ((∀ i, i < t.R0.cnt → l0 i = 0) ∧ (∀ i, i < t.R1.cnt → l1 i = 0) ∧ (∀ i, i < t.R2.cnt → l2 i = 0)) ∧ 0 ≤ pa ∧ 0 ≤ v ∧ v ≤ 4294967295), .rel T3 38 (fun x => some (x.Inv)) (fun x => .val (.one (.bool (.lit true)))) (fun x => [.mem true [.cells [.ptr 20 0, .ptr 23 0, .ptr 26 0, .ptr 29 0, .ptr 32 0, .ptr 35 0]], .gone, .gone, .gone, .gone, .gone, .gone, .gone, .gone, .gone, .gone, .gone, .gone, .gone, .gone, .gone, .gone, .gone, .gone, .rof .u8 rd rv rf, .mem true [.cells [.int .i64 (.tm (x.N0)), .map 21]], .mp true .i64 false x.P0.has [.fptrs 22 x.P0.bb], .fam true 80 .u8 x.P0.ln x.P0.dom x.P0.g, .mem true [.cells [.int .i64 (.tm (x.N1)), .map 24]], .mp true .i64 false x.P1.has [.fptrs 25 x.P1.bb], .fam true 80 .u8 x.P1.ln x.P1.dom x.P1.g, .mem true [.cells [.int .i64 (.tm (x.N2)), .map 27]], .mp true .i64 false x.P2.has [.fptrs 28 x.P2.bb], .fam true 80 .u8 x.P2.ln x.P2.dom x.P2.g, .mem true [.cells [.int .i64 (.tm (x.N0)), .vec 30]], .vec true 98 x.R0.cnt [.ints .i64 x.R0.no, .fsubs 31 x.R0.bb (fun _ => 0) x.R0.sl], .fam true 5 .u8 x.R0.ln x.R0.dom x.R0.g, .mem true [.cells [.int .i64 (.tm (x.N1)), .vec 33]], .vec true 98 x.R1.cnt [.ints .i64 x.R1.no, .fsubs 34 x.R1.bb (fun _ => 0) x.R1.sl], .fam true 5 .u8 x.R1.ln x.R1.dom x.R1.g, .mem true [.cells [.int .i64 (.tm (x.N2)), .vec 36]], .vec true 98 x.R2.cnt [.ints .i64 x.R2.no, .fsubs 37 x.R2.bb (fun _ => 0) x.R2.sl], .fam true 5 .u8 x.R2.ln x.R2.dom x.R2.g])⟩
noncomputable def wordsCR (t : T3) (m0 m1 m2 : Int) (l0 l1 l2 : Nat → Nat) (kd w N pa v : Int) (b0 o c : Nat) (rd : Nat → Bool) (rv : Nat → Nat → Bool) (rf : Nat → Nat → Int) : List Res := [wordsCQ t m0 m1 m2 l0 l1 l2 kd w N pa v b0 o c rd rv rf]
noncomputable def wordsC : Con := ⟨38, fun args h => match args, h with
  | [.val (.one (.ptr 0 0)), .val (.agg [.int .i64 (.tm kd), .int .i64 (.tm w), .int .i64 (.tm N), .int .u64 (.tm pa), .int .u32 (.tm v), .fsub 19 b0 o c])], [.mem true [.cells [.ptr 1 0, .ptr 4 0, .ptr 7 0, .ptr 10 0, .ptr 13 0, .ptr 16 0]], .mem true [.cells [.int .i64 (.tm n0), .map 2]], .mp true .i64 false ha0 [.fptrs 3 ba0], .fam true 80 .u8 la0 da0 ga0, .mem true [.cells [.int .i64 (.tm n1), .map 5]], .mp true .i64 false ha1 [.fptrs 6 ba1], .fam true 80 .u8 la1 da1 ga1, .mem true [.cells [.int .i64 (.tm n2), .map 8]], .mp true .i64 false ha2 [.fptrs 9 ba2], .fam true 80 .u8 la2 da2 ga2, .mem true [.cells [.int .i64 (.tm m0), .vec 11]], .vec true 98 ct0 [.ints .i64 no0, .fsubs 12 bt0 l0 sl0], .fam true 5 .u8 lt0 dt0 gt0, .mem true [.cells [.int .i64 (.tm m1), .vec 14]], .vec true 98 ct1 [.ints .i64 no1, .fsubs 15 bt1 l1 sl1], .fam true 5 .u8 lt1 dt1 gt1, .mem true [.cells [.int .i64 (.tm m2), .vec 17]], .vec true 98 ct2 [.ints .i64 no2, .fsubs 18 bt2 l2 sl2], .fam true 5 .u8 lt2 dt2 gt2, .rof .u8 rd rv rf] => some (wordsCR (T3.of n0 n1 n2 ⟨ha0, ba0, la0, da0, ga0⟩ ⟨ha1, ba1, la1, da1, ga1⟩ ⟨ha2, ba2, la2, da2, ga2⟩ ⟨ct0, no0, bt0, sl0, lt0, dt0, gt0⟩ ⟨ct1, no1, bt1, sl1, lt1, dt1, gt1⟩ ⟨ct2, no2, bt2, sl2, lt2, dt2, gt2⟩) m0 m1 m2 l0 l1 l2 kd w N pa v b0 o c rd rv rf)
  | _, _ => none, false⟩
theorem wordsC_p0c0 (t : T3) (m0 m1 m2 : Int) (l0 l1 l2 : Nat → Nat) (kd w N pa v : Int) (b0 o c : Nat) (rd : Nat → Bool) (rv : Nat → Nat → Bool) (rf : Nat → Nat → Int) (hn : t.Inv ∧ ((∀ i, i < t.R0.cnt → l0 i = 0) ∧ (∀ i, i < t.R1.cnt → l1 i = 0) ∧ (∀ i, i < t.R2.cnt → l2 i = 0)) ∧ 0 ≤ pa ∧ 0 ≤ v ∧ v ≤ 4294967295) (hs : (kd = 1) ∧ whoN w = 0) : ∃ anns, fnVC Try.prog [] (callOf Try.prog [] [whoC, byteC, halfC, wordC, setByteC, setHalfC, setWordC, GetC, SetC, rwordC, rsetWordC]) anns Try.f38 ((Try.f38.body).getD .skip) (wordsCA t m0 m1 m2 l0 l1 l2 kd w N pa v b0 o c rd rv rf) (wordsCH t m0 m1 m2 l0 l1 l2 kd w N pa v b0 o c rd rv rf) (wordsCQ t m0 m1 m2 l0 l1 l2 kd w N pa v b0 o c rd rv rf) := by
  refine ⟨⟨[], [], [], [], [(22, 0), (30, 0), (1000037, 1)], []⟩, ?_⟩
  rw [show fnVC Try.prog [] (callOf Try.prog [] [whoC, byteC, halfC, wordC, setByteC, setHalfC, setWordC, GetC, SetC, rwordC, rsetWordC]) ⟨[], [], [], [], [(22, 0), (30, 0), (1000037, 1)], []⟩ Try.f38 ((Try.f38.body).getD .skip) (wordsCA t m0 m1 m2 l0 l1 l2 kd w N pa v b0 o c rd rv rf) (wordsCH t m0 m1 m2 l0 l1 l2 kd w N pa v b0 o c rd rv rf) (wordsCQ t m0 m1 m2 l0 l1 l2 kd w N pa v b0 o c rd rv rf) = ((whoN w = (1 : Int) → False) ∧ (whoN w = (2 : Int) → False) ∧ (whoN w = (0 : Int) → (whoN w = (1 : Int) → False) ∧ (whoN w = (2 : Int) → False) ∧ (whoN w = (0 : Int) → decide (kd = (1 : Int)) = true ∧ (PM.Inv t.N0 t.P0 ∧ t.N0 ≤ (65536 : Int) ∧ (0 : Int) ≤ t.N0 ∧ (0 : Int) ≤ pa) ∧ (RM.Inv t.N0 t.R0 ∧ (∀ (i : Nat), i < t.R0.cnt → l0 i = (0 : Nat)) ∧ t.N0 ≤ (65536 : Int) ∧ (0 : Int) ≤ t.N0 ∧ (0 : Int) ≤ pa ∧ ((1 : Int) = (1 : Int) ∨ (1 : Int) = (2 : Int) ∨ (1 : Int) = (4 : Int))) ∧ ((decide (IntKind.u64.wrap (if err t.N0 pa (1 : Int) = (0 : Int) then t.P0.at_ pa else (0 : Int)) = if err t.N0 pa (1 : Int) = (0 : Int) then le t.R0.at_ pa (1 : Nat) else (0 : Int)) = true → decide (IntKind.u64.wrap (if err t.N0 pa (1 : Int) = (0 : Int) then t.P0.at_ pa else (0 : Int)) = if err t.N0 pa (1 : Int) = (0 : Int) then le t.R0.at_ pa (1 : Nat) else (0 : Int)) = true) ∧ (decide (IntKind.u64.wrap (if err t.N0 pa (1 : Int) = (0 : Int) then t.P0.at_ pa else (0 : Int)) = if err t.N0 pa (1 : Int) = (0 : Int) then le t.R0.at_ pa (1 : Nat) else (0 : Int)) = true → decide (IntKind.u64.wrap (if err t.N0 pa (1 : Int) = (0 : Int) then t.P0.at_ pa else (0 : Int)) = if err t.N0 pa (1 : Int) = (0 : Int) then le t.R0.at_ pa (1 : Nat) else (0 : Int)) = true)) ∧ (decide (IntKind.u64.wrap (if err t.N0 pa (1 : Int) = (0 : Int) then t.P0.at_ pa else (0 : Int)) = if err t.N0 pa (1 : Int) = (0 : Int) then le t.R0.at_ pa (1 : Nat) else (0 : Int)) = true → decide (IntKind.u64.wrap (if err t.N0 pa (1 : Int) = (0 : Int) then t.P0.at_ pa else (0 : Int)) = if err t.N0 pa (1 : Int) = (0 : Int) then le t.R0.at_ pa (1 : Nat) else (0 : Int)) = true) ∧ ∃ (x : T3), x.Inv ∧ (bif decide (IntKind.u64.wrap (if err t.N0 pa (1 : Int) = (0 : Int) then t.P0.at_ pa else (0 : Int)) = if err t.N0 pa (1 : Int) = (0 : Int) then le t.R0.at_ pa (1 : Nat) else (0 : Int)) then decide (err t.N0 pa (1 : Int) = err t.N0 pa (1 : Int)) else false) = true ∧ (SubB rd rv rf) ∧ Sub3 t.N0 t.N1 t.N2 t.P0 t.P1 t.P2 t.N0 t.N1 t.N2 t.R0 t.R1 t.R2 l0 l1 l2 x))) from by kernel_rfl]
  obtain ⟨hI, ⟨hl0, hl1, hl2⟩, h0, h1, h2⟩ := hn
  obtain ⟨hk, hw⟩ := hs
  simp only [T3.P0, T3.P1, T3.P2, T3.R0, T3.R1, T3.R2, T3.N0, T3.N1, T3.N2] at *
  have hp := hI.p 0 (by decide)
  have hr := hI.r 0 (by decide)
  have he := hI.e 0 (by decide)
  have hb := hI.n 0 (by decide)
  have key := rd_same1 hp he h0
  have hge : 0 ≤ t.n 0 := by omega
  have hle : t.n 0 ≤ 65536 := hb.2
  simp [hw, hk, key, hp, hr, hle, hge, h0]
  refine ⟨hl0, t, hI, SubB.refl _ _ _, rfl, SubM.refl _, SubF.refl _ _ _, rfl, SubM.refl _, SubF.refl _ _ _, rfl, SubM.refl _, SubF.refl _ _ _, rfl, SubR.refl hl0, SubF.refl _ _ _, rfl, SubR.refl hl1, SubF.refl _ _ _, rfl, SubR.refl hl2, SubF.refl _ _ _⟩
theorem wordsC_p0c1 (t : T3) (m0 m1 m2 : Int) (l0 l1 l2 : Nat → Nat) (kd w N pa v : Int) (b0 o c : Nat) (rd : Nat → Bool) (rv : Nat → Nat → Bool) (rf : Nat → Nat → Int) (hn : t.Inv ∧ ((∀ i, i < t.R0.cnt → l0 i = 0) ∧ (∀ i, i < t.R1.cnt → l1 i = 0) ∧ (∀ i, i < t.R2.cnt → l2 i = 0)) ∧ 0 ≤ pa ∧ 0 ≤ v ∧ v ≤ 4294967295) (hs : (kd = 1) ∧ whoN w = 1) : ∃ anns, fnVC Try.prog [] (callOf Try.prog [] [whoC, byteC, halfC, wordC, setByteC, setHalfC, setWordC, GetC, SetC, rwordC, rsetWordC]) anns Try.f38 ((Try.f38.body).getD .skip) (wordsCA t m0 m1 m2 l0 l1 l2 kd w N pa v b0 o c rd rv rf) (wordsCH t m0 m1 m2 l0 l1 l2 kd w N pa v b0 o c rd rv rf) (wordsCQ t m0 m1 m2 l0 l1 l2 kd w N pa v b0 o c rd rv rf) := by
  refine ⟨⟨[], [], [], [], [(22, 1), (30, 1), (1000037, 1)], []⟩, ?_⟩
  rw [show fnVC Try.prog [] (callOf Try.prog [] [whoC, byteC, halfC, wordC, setByteC, setHalfC, setWordC, GetC, SetC, rwordC, rsetWordC]) ⟨[], [], [], [], [(22, 1), (30, 1), (1000037, 1)], []⟩ Try.f38 ((Try.f38.body).getD .skip) (wordsCA t m0 m1 m2 l0 l1 l2 kd w N pa v b0 o c rd rv rf) (wordsCH t m0 m1 m2 l0 l1 l2 kd w N pa v b0 o c rd rv rf) (wordsCQ t m0 m1 m2 l0 l1 l2 kd w N pa v b0 o c rd rv rf) = ((whoN w = (0 : Int) → False) ∧ (whoN w = (2 : Int) → False) ∧ (whoN w = (1 : Int) → (whoN w = (0 : Int) → False) ∧ (whoN w = (2 : Int) → False) ∧ (whoN w = (1 : Int) → decide (kd = (1 : Int)) = true ∧ (PM.Inv t.N1 t.P1 ∧ t.N1 ≤ (65536 : Int) ∧ (0 : Int) ≤ t.N1 ∧ (0 : Int) ≤ pa) ∧ (RM.Inv t.N1 t.R1 ∧ (∀ (i : Nat), i < t.R1.cnt → l1 i = (0 : Nat)) ∧ t.N1 ≤ (65536 : Int) ∧ (0 : Int) ≤ t.N1 ∧ (0 : Int) ≤ pa ∧ ((1 : Int) = (1 : Int) ∨ (1 : Int) = (2 : Int) ∨ (1 : Int) = (4 : Int))) ∧ ((decide (IntKind.u64.wrap (if err t.N1 pa (1 : Int) = (0 : Int) then t.P1.at_ pa else (0 : Int)) = if err t.N1 pa (1 : Int) = (0 : Int) then le t.R1.at_ pa (1 : Nat) else (0 : Int)) = true → decide (IntKind.u64.wrap (if err t.N1 pa (1 : Int) = (0 : Int) then t.P1.at_ pa else (0 : Int)) = if err t.N1 pa (1 : Int) = (0 : Int) then le t.R1.at_ pa (1 : Nat) else (0 : Int)) = true) ∧ (decide (IntKind.u64.wrap (if err t.N1 pa (1 : Int) = (0 : Int) then t.P1.at_ pa else (0 : Int)) = if err t.N1 pa (1 : Int) = (0 : Int) then le t.R1.at_ pa (1 : Nat) else (0 : Int)) = true → decide (IntKind.u64.wrap (if err t.N1 pa (1 : Int) = (0 : Int) then t.P1.at_ pa else (0 : Int)) = if err t.N1 pa (1 : Int) = (0 : Int) then le t.R1.at_ pa (1 : Nat) else (0 : Int)) = true)) ∧ (decide (IntKind.u64.wrap (if err t.N1 pa (1 : Int) = (0 : Int) then t.P1.at_ pa else (0 : Int)) = if err t.N1 pa (1 : Int) = (0 : Int) then le t.R1.at_ pa (1 : Nat) else (0 : Int)) = true → decide (IntKind.u64.wrap (if err t.N1 pa (1 : Int) = (0 : Int) then t.P1.at_ pa else (0 : Int)) = if err t.N1 pa (1 : Int) = (0 : Int) then le t.R1.at_ pa (1 : Nat) else (0 : Int)) = true) ∧ ∃ (x : T3), x.Inv ∧ (bif decide (IntKind.u64.wrap (if err t.N1 pa (1 : Int) = (0 : Int) then t.P1.at_ pa else (0 : Int)) = if err t.N1 pa (1 : Int) = (0 : Int) then le t.R1.at_ pa (1 : Nat) else (0 : Int)) then decide (err t.N1 pa (1 : Int) = err t.N1 pa (1 : Int)) else false) = true ∧ (SubB rd rv rf) ∧ Sub3 t.N0 t.N1 t.N2 t.P0 t.P1 t.P2 t.N0 t.N1 t.N2 t.R0 t.R1 t.R2 l0 l1 l2 x))) from by kernel_rfl]
  obtain ⟨hI, ⟨hl0, hl1, hl2⟩, h0, h1, h2⟩ := hn
  obtain ⟨hk, hw⟩ := hs
  simp only [T3.P0, T3.P1, T3.P2, T3.R0, T3.R1, T3.R2, T3.N0, T3.N1, T3.N2] at *
  have hp := hI.p 1 (by decide)
  have hr := hI.r 1 (by decide)
  have he := hI.e 1 (by decide)
  have hb := hI.n 1 (by decide)
  have key := rd_same1 hp he h0
  have hge : 0 ≤ t.n 1 := by omega
  have hle : t.n 1 ≤ 65536 := hb.2
  simp [hw, hk, key, hp, hr, hle, hge, h0]
  refine ⟨hl1, t, hI, SubB.refl _ _ _, rfl, SubM.refl _, SubF.refl _ _ _, rfl, SubM.refl _, SubF.refl _ _ _, rfl, SubM.refl _, SubF.refl _ _ _, rfl, SubR.refl hl0, SubF.refl _ _ _, rfl, SubR.refl hl1, SubF.refl _ _ _, rfl, SubR.refl hl2, SubF.refl _ _ _⟩
theorem wordsC_p0c2 (t : T3) (m0 m1 m2 : Int) (l0 l1 l2 : Nat → Nat) (kd w N pa v : Int) (b0 o c : Nat) (rd : Nat → Bool) (rv : Nat → Nat → Bool) (rf : Nat → Nat → Int) (hn : t.Inv ∧ ((∀ i, i < t.R0.cnt → l0 i = 0) ∧ (∀ i, i < t.R1.cnt → l1 i = 0) ∧ (∀ i, i < t.R2.cnt → l2 i = 0)) ∧ 0 ≤ pa ∧ 0 ≤ v ∧ v ≤ 4294967295) (hs : (kd = 1) ∧ whoN w = 2) : ∃ anns, fnVC Try.prog [] (callOf Try.prog [] [whoC, byteC, halfC, wordC, setByteC, setHalfC, setWordC, GetC, SetC, rwordC, rsetWordC]) anns Try.f38 ((Try.f38.body).getD .skip) (wordsCA t m0 m1 m2 l0 l1 l2 kd w N pa v b0 o c rd rv rf) (wordsCH t m0 m1 m2 l0 l1 l2 kd w N pa v b0 o c rd rv rf) (wordsCQ t m0 m1 m2 l0 l1 l2 kd w N pa v b0 o c rd rv rf) := by
  refine ⟨⟨[], [], [], [], [(22, 2), (30, 2), (1000037, 1)], []⟩, ?_⟩
  rw [show fnVC Try.prog [] (callOf Try.prog [] [whoC, byteC, halfC, wordC, setByteC, setHalfC, setWordC, GetC, SetC, rwordC, rsetWordC]) ⟨[], [], [], [], [(22, 2), (30, 2), (1000037, 1)], []⟩ Try.f38 ((Try.f38.body).getD .skip) (wordsCA t m0 m1 m2 l0 l1 l2 kd w N pa v b0 o c rd rv rf) (wordsCH t m0 m1 m2 l0 l1 l2 kd w N pa v b0 o c rd rv rf) (wordsCQ t m0 m1 m2 l0 l1 l2 kd w N pa v b0 o c rd rv rf) = ((whoN w = (0 : Int) → False) ∧ (whoN w = (1 : Int) → False) ∧ (whoN w = (2 : Int) → (whoN w = (0 : Int) → False) ∧ (whoN w = (1 : Int) → False) ∧ (whoN w = (2 : Int) → decide (kd = (1 : Int)) = true ∧ (PM.Inv t.N2 t.P2 ∧ t.N2 ≤ (65536 : Int) ∧ (0 : Int) ≤ t.N2 ∧ (0 : Int) ≤ pa) ∧ (RM.Inv t.N2 t.R2 ∧ (∀ (i : Nat), i < t.R2.cnt → l2 i = (0 : Nat)) ∧ t.N2 ≤ (65536 : Int) ∧ (0 : Int) ≤ t.N2 ∧ (0 : Int) ≤ pa ∧ ((1 : Int) = (1 : Int) ∨ (1 : Int) = (2 : Int) ∨ (1 : Int) = (4 : Int))) ∧ ((decide (IntKind.u64.wrap (if err t.N2 pa (1 : Int) = (0 : Int) then t.P2.at_ pa else (0 : Int)) = if err t.N2 pa (1 : Int) = (0 : Int) then le t.R2.at_ pa (1 : Nat) else (0 : Int)) = true → decide (IntKind.u64.wrap (if err t.N2 pa (1 : Int) = (0 : Int) then t.P2.at_ pa else (0 : Int)) = if err t.N2 pa (1 : Int) = (0 : Int) then le t.R2.at_ pa (1 : Nat) else (0 : Int)) = true) ∧ (decide (IntKind.u64.wrap (if err t.N2 pa (1 : Int) = (0 : Int) then t.P2.at_ pa else (0 : Int)) = if err t.N2 pa (1 : Int) = (0 : Int) then le t.R2.at_ pa (1 : Nat) else (0 : Int)) = true → decide (IntKind.u64.wrap (if err t.N2 pa (1 : Int) = (0 : Int) then t.P2.at_ pa else (0 : Int)) = if err t.N2 pa (1 : Int) = (0 : Int) then le t.R2.at_ pa (1 : Nat) else (0 : Int)) = true)) ∧ (decide (IntKind.u64.wrap (if err t.N2 pa (1 : Int) = (0 : Int) then t.P2.at_ pa else (0 : Int)) = if err t.N2 pa (1 : Int) = (0 : Int) then le t.R2.at_ pa (1 : Nat) else (0 : Int)) = true → decide (IntKind.u64.wrap (if err t.N2 pa (1 : Int) = (0 : Int) then t.P2.at_ pa else (0 : Int)) = if err t.N2 pa (1 : Int) = (0 : Int) then le t.R2.at_ pa (1 : Nat) else (0 : Int)) = true) ∧ ∃ (x : T3), x.Inv ∧ (bif decide (IntKind.u64.wrap (if err t.N2 pa (1 : Int) = (0 : Int) then t.P2.at_ pa else (0 : Int)) = if err t.N2 pa (1 : Int) = (0 : Int) then le t.R2.at_ pa (1 : Nat) else (0 : Int)) then decide (err t.N2 pa (1 : Int) = err t.N2 pa (1 : Int)) else false) = true ∧ (SubB rd rv rf) ∧ Sub3 t.N0 t.N1 t.N2 t.P0 t.P1 t.P2 t.N0 t.N1 t.N2 t.R0 t.R1 t.R2 l0 l1 l2 x))) from by kernel_rfl]
  obtain ⟨hI, ⟨hl0, hl1, hl2⟩, h0, h1, h2⟩ := hn
  obtain ⟨hk, hw⟩ := hs
  simp only [T3.P0, T3.P1, T3.P2, T3.R0, T3.R1, T3.R2, T3.N0, T3.N1, T3.N2] at *
  have hp := hI.p 2 (by decide)
  have hr := hI.r 2 (by decide)
  have he := hI.e 2 (by decide)
  have hb := hI.n 2 (by decide)
  have key := rd_same1 hp he h0
  have hge : 0 ≤ t.n 2 := by omega
  have hle : t.n 2 ≤ 65536 := hb.2
  simp [hw, hk, key, hp, hr, hle, hge, h0]
  refine ⟨hl2, t, hI, SubB.refl _ _ _, rfl, SubM.refl _, SubF.refl _ _ _, rfl, SubM.refl _, SubF.refl _ _ _, rfl, SubM.refl _, SubF.refl _ _ _, rfl, SubR.refl hl0, SubF.refl _ _ _, rfl, SubR.refl hl1, SubF.refl _ _ _, rfl, SubR.refl hl2, SubF.refl _ _ _⟩
theorem wordsC_p0c3 (t : T3) (m0 m1 m2 : Int) (l0 l1 l2 : Nat → Nat) (kd w N pa v : Int) (b0 o c : Nat) (rd : Nat → Bool) (rv : Nat → Nat → Bool) (rf : Nat → Nat → Int) (hn : t.Inv ∧ ((∀ i, i < t.R0.cnt → l0 i = 0) ∧ (∀ i, i < t.R1.cnt → l1 i = 0) ∧ (∀ i, i < t.R2.cnt → l2 i = 0)) ∧ 0 ≤ pa ∧ 0 ≤ v ∧ v ≤ 4294967295) (hs : (kd = 2) ∧ whoN w = 0) : ∃ anns, fnVC Try.prog [] (callOf Try.prog [] [whoC, byteC, halfC, wordC, setByteC, setHalfC, setWordC, GetC, SetC, rwordC, rsetWordC]) anns Try.f38 ((Try.f38.body).getD .skip) (wordsCA t m0 m1 m2 l0 l1 l2 kd w N pa v b0 o c rd rv rf) (wordsCH t m0 m1 m2 l0 l1 l2 kd w N pa v b0 o c rd rv rf) (wordsCQ t m0 m1 m2 l0 l1 l2 kd w N pa v b0 o c rd rv rf) := by
  refine ⟨⟨[], [], [], [], [(22, 0), (30, 0), (1000037, 0), (1000062, 1)], []⟩, ?_⟩
  rw [show fnVC Try.prog [] (callOf Try.prog [] [whoC, byteC, halfC, wordC, setByteC, setHalfC, setWordC, GetC, SetC, rwordC, rsetWordC]) ⟨[], [], [], [], [(22, 0), (30, 0), (1000037, 0), (1000062, 1)], []⟩ Try.f38 ((Try.f38.body).getD .skip) (wordsCA t m0 m1 m2 l0 l1 l2 kd w N pa v b0 o c rd rv rf) (wordsCH t m0 m1 m2 l0 l1 l2 kd w N pa v b0 o c rd rv rf) (wordsCQ t m0 m1 m2 l0 l1 l2 kd w N pa v b0 o c rd rv rf) = ((whoN w = (1 : Int) → False) ∧ (whoN w = (2 : Int) → False) ∧ (whoN w = (0 : Int) → (whoN w = (1 : Int) → False) ∧ (whoN w = (2 : Int) → False) ∧ (whoN w = (0 : Int) → decide (kd = (1 : Int)) = false ∧ decide (kd = (2 : Int)) = true ∧ (PM.Inv t.N0 t.P0 ∧ t.N0 ≤ (65536 : Int) ∧ (0 : Int) ≤ t.N0 ∧ (0 : Int) ≤ pa) ∧ (RM.Inv t.N0 t.R0 ∧ (∀ (i : Nat), i < t.R0.cnt → l0 i = (0 : Nat)) ∧ t.N0 ≤ (65536 : Int) ∧ (0 : Int) ≤ t.N0 ∧ (0 : Int) ≤ pa ∧ ((2 : Int) = (1 : Int) ∨ (2 : Int) = (2 : Int) ∨ (2 : Int) = (4 : Int))) ∧ ((decide (IntKind.u64.wrap (if err t.N0 pa (2 : Int) = (0 : Int) then le t.P0.at_ pa (2 : Nat) else (0 : Int)) = if err t.N0 pa (2 : Int) = (0 : Int) then le t.R0.at_ pa (2 : Nat) else (0 : Int)) = true → decide (IntKind.u64.wrap (if err t.N0 pa (2 : Int) = (0 : Int) then le t.P0.at_ pa (2 : Nat) else (0 : Int)) = if err t.N0 pa (2 : Int) = (0 : Int) then le t.R0.at_ pa (2 : Nat) else (0 : Int)) = true) ∧ (decide (IntKind.u64.wrap (if err t.N0 pa (2 : Int) = (0 : Int) then le t.P0.at_ pa (2 : Nat) else (0 : Int)) = if err t.N0 pa (2 : Int) = (0 : Int) then le t.R0.at_ pa (2 : Nat) else (0 : Int)) = true → decide (IntKind.u64.wrap (if err t.N0 pa (2 : Int) = (0 : Int) then le t.P0.at_ pa (2 : Nat) else (0 : Int)) = if err t.N0 pa (2 : Int) = (0 : Int) then le t.R0.at_ pa (2 : Nat) else (0 : Int)) = true)) ∧ (decide (IntKind.u64.wrap (if err t.N0 pa (2 : Int) = (0 : Int) then le t.P0.at_ pa (2 : Nat) else (0 : Int)) = if err t.N0 pa (2 : Int) = (0 : Int) then le t.R0.at_ pa (2 : Nat) else (0 : Int)) = true → decide (IntKind.u64.wrap (if err t.N0 pa (2 : Int) = (0 : Int) then le t.P0.at_ pa (2 : Nat) else (0 : Int)) = if err t.N0 pa (2 : Int) = (0 : Int) then le t.R0.at_ pa (2 : Nat) else (0 : Int)) = true) ∧ ∃ (x : T3), x.Inv ∧ (bif decide (IntKind.u64.wrap (if err t.N0 pa (2 : Int) = (0 : Int) then le t.P0.at_ pa (2 : Nat) else (0 : Int)) = if err t.N0 pa (2 : Int) = (0 : Int) then le t.R0.at_ pa (2 : Nat) else (0 : Int)) then decide (err t.N0 pa (2 : Int) = err t.N0 pa (2 : Int)) else false) = true ∧ (SubB rd rv rf) ∧ Sub3 t.N0 t.N1 t.N2 t.P0 t.P1 t.P2 t.N0 t.N1 t.N2 t.R0 t.R1 t.R2 l0 l1 l2 x))) from by kernel_rfl]
  obtain ⟨hI, ⟨hl0, hl1, hl2⟩, h0, h1, h2⟩ := hn
  obtain ⟨hk, hw⟩ := hs
  simp only [T3.P0, T3.P1, T3.P2, T3.R0, T3.R1, T3.R2, T3.N0, T3.N1, T3.N2] at *
  have hp := hI.p 0 (by decide)
  have hr := hI.r 0 (by decide)
  have he := hI.e 0 (by decide)
  have hb := hI.n 0 (by decide)
  have key := rd_same2 hp he h0
  have hge : 0 ≤ t.n 0 := by omega
  have hle : t.n 0 ≤ 65536 := hb.2
  simp [hw, hk, key, hp, hr, hle, hge, h0]
  refine ⟨hl0, t, hI, SubB.refl _ _ _, rfl, SubM.refl _, SubF.refl _ _ _, rfl, SubM.refl _, SubF.refl _ _ _, rfl, SubM.refl _, SubF.refl _ _ _, rfl, SubR.refl hl0, SubF.refl _ _ _, rfl, SubR.refl hl1, SubF.refl _ _ _, rfl, SubR.refl hl2, SubF.refl _ _ _⟩
theorem wordsC_p0c4 (t : T3) (m0 m1 m2 : Int) (l0 l1 l2 : Nat → Nat) (kd w N pa v : Int) (b0 o c : Nat) (rd : Nat → Bool) (rv : Nat → Nat → Bool) (rf : Nat → Nat → Int) (hn : t.Inv ∧ ((∀ i, i < t.R0.cnt → l0 i = 0) ∧ (∀ i, i < t.R1.cnt → l1 i = 0) ∧ (∀ i, i < t.R2.cnt → l2 i = 0)) ∧ 0 ≤ pa ∧ 0 ≤ v ∧ v ≤ 4294967295) (hs : (kd = 2) ∧ whoN w = 1) : ∃ anns, fnVC Try.prog [] (callOf Try.prog [] [whoC, byteC, halfC, wordC, setByteC, setHalfC, setWordC, GetC, SetC, rwordC, rsetWordC]) anns Try.f38 ((Try.f38.body).getD .skip) (wordsCA t m0 m1 m2 l0 l1 l2 kd w N pa v b0 o c rd rv rf) (wordsCH t m0 m1 m2 l0 l1 l2 kd w N pa v b0 o c rd rv rf) (wordsCQ t m0 m1 m2 l0 l1 l2 kd w N pa v b0 o c rd rv rf) := by
  refine ⟨⟨[], [], [], [], [(22, 1), (30, 1), (1000037, 0), (1000062, 1)], []⟩, ?_⟩
  rw [show fnVC Try.prog [] (callOf Try.prog [] [whoC, byteC, halfC, wordC, setByteC, setHalfC, setWordC, GetC, SetC, rwordC, rsetWordC]) ⟨[], [], [], [], [(22, 1), (30, 1), (1000037, 0), (1000062, 1)], []⟩ Try.f38 ((Try.f38.body).getD .skip) (wordsCA t m0 m1 m2 l0 l1 l2 kd w N pa v b0 o c rd rv rf) (wordsCH t m0 m1 m2 l0 l1 l2 kd w N pa v b0 o c rd rv rf) (wordsCQ t m0 m1 m2 l0 l1 l2 kd w N pa v b0 o c rd rv rf) = ((whoN w = (0 : Int) → False) ∧ (whoN w = (2 : Int) → False) ∧ (whoN w = (1 : Int) → (whoN w = (0 : Int) → False) ∧ (whoN w = (2 : Int) → False) ∧ (whoN w = (1 : Int) → decide (kd = (1 : Int)) = false ∧ decide (kd = (2 : Int)) = true ∧ (PM.Inv t.N1 t.P1 ∧ t.N1 ≤ (65536 : Int) ∧ (0 : Int) ≤ t.N1 ∧ (0 : Int) ≤ pa) ∧ (RM.Inv t.N1 t.R1 ∧ (∀ (i : Nat), i < t.R1.cnt → l1 i = (0 : Nat)) ∧ t.N1 ≤ (65536 : Int) ∧ (0 : Int) ≤ t.N1 ∧ (0 : Int) ≤ pa ∧ ((2 : Int) = (1 : Int) ∨ (2 : Int) = (2 : Int) ∨ (2 : Int) = (4 : Int))) ∧ ((decide (IntKind.u64.wrap (if err t.N1 pa (2 : Int) = (0 : Int) then le t.P1.at_ pa (2 : Nat) else (0 : Int)) = if err t.N1 pa (2 : Int) = (0 : Int) then le t.R1.at_ pa (2 : Nat) else (0 : Int)) = true → decide (IntKind.u64.wrap (if err t.N1 pa (2 : Int) = (0 : Int) then le t.P1.at_ pa (2 : Nat) else (0 : Int)) = if err t.N1 pa (2 : Int) = (0 : Int) then le t.R1.at_ pa (2 : Nat) else (0 : Int)) = true) ∧ (decide (IntKind.u64.wrap (if err t.N1 pa (2 : Int) = (0 : Int) then le t.P1.at_ pa (2 : Nat) else (0 : Int)) = if err t.N1 pa (2 : Int) = (0 : Int) then le t.R1.at_ pa (2 : Nat) else (0 : Int)) = true → decide (IntKind.u64.wrap (if err t.N1 pa (2 : Int) = (0 : Int) then le t.P1.at_ pa (2 : Nat) else (0 : Int)) = if err t.N1 pa (2 : Int) = (0 : Int) then le t.R1.at_ pa (2 : Nat) else (0 : Int)) = true)) ∧ (decide (IntKind.u64.wrap (if err t.N1 pa (2 : Int) = (0 : Int) then le t.P1.at_ pa (2 : Nat) else (0 : Int)) = if err t.N1 pa (2 : Int) = (0 : Int) then le t.R1.at_ pa (2 : Nat) else (0 : Int)) = true → decide (IntKind.u64.wrap (if err t.N1 pa (2 : Int) = (0 : Int) then le t.P1.at_ pa (2 : Nat) else (0 : Int)) = if err t.N1 pa (2 : Int) = (0 : Int) then le t.R1.at_ pa (2 : Nat) else (0 : Int)) = true) ∧ ∃ (x : T3), x.Inv ∧ (bif decide (IntKind.u64.wrap (if err t.N1 pa (2 : Int) = (0 : Int) then le t.P1.at_ pa (2 : Nat) else (0 : Int)) = if err t.N1 pa (2 : Int) = (0 : Int) then le t.R1.at_ pa (2 : Nat) else (0 : Int)) then decide (err t.N1 pa (2 : Int) = err t.N1 pa (2 : Int)) else false) = true ∧ (SubB rd rv rf) ∧ Sub3 t.N0 t.N1 t.N2 t.P0 t.P1 t.P2 t.N0 t.N1 t.N2 t.R0 t.R1 t.R2 l0 l1 l2 x))) from by kernel_rfl]
  obtain ⟨hI, ⟨hl0, hl1, hl2⟩, h0, h1, h2⟩ := hn
  obtain ⟨hk, hw⟩ := hs
  simp only [T3.P0, T3.P1, T3.P2, T3.R0, T3.R1, T3.R2, T3.N0, T3.N1, T3.N2] at *
  have hp := hI.p 1 (by decide)
  have hr := hI.r 1 (by decide)
  have he := hI.e 1 (by decide)
  have hb := hI.n 1 (by decide)
  have key := rd_same2 hp he h0
  have hge : 0 ≤ t.n 1 := by omega
  have hle : t.n 1 ≤ 65536 := hb.2
  simp [hw, hk, key, hp, hr, hle, hge, h0]
  refine ⟨hl1, t, hI, SubB.refl _ _ _, rfl, SubM.refl _, SubF.refl _ _ _, rfl, SubM.refl _, SubF.refl _ _ _, rfl, SubM.refl _, SubF.refl _ _ _, rfl, SubR.refl hl0, SubF.refl _ _ _, rfl, SubR.refl hl1, SubF.refl _ _ _, rfl, SubR.refl hl2, SubF.refl _ _ _⟩
theorem wordsC_p0c5 (t : T3) (m0 m1 m2 : Int) (l0 l1 l2 : Nat → Nat) (kd w N pa v : Int) (b0 o c : Nat) (rd : Nat → Bool) (rv : Nat → Nat → Bool) (rf : Nat → Nat → Int) (hn : t.Inv ∧ ((∀ i, i < t.R0.cnt → l0 i = 0) ∧ (∀ i, i < t.R1.cnt → l1 i = 0) ∧ (∀ i, i < t.R2.cnt → l2 i = 0)) ∧ 0 ≤ pa ∧ 0 ≤ v ∧ v ≤ 4294967295) (hs : (kd = 2) ∧ whoN w = 2) : ∃ anns, fnVC Try.prog [] (callOf Try.prog [] [whoC, byteC, halfC, wordC, setByteC, setHalfC, setWordC, GetC, SetC, rwordC, rsetWordC]) anns Try.f38 ((Try.f38.body).getD .skip) (wordsCA t m0 m1 m2 l0 l1 l2 kd w N pa v b0 o c rd rv rf) (wordsCH t m0 m1 m2 l0 l1 l2 kd w N pa v b0 o c rd rv rf) (wordsCQ t m0 m1 m2 l0 l1 l2 kd w N pa v b0 o c rd rv rf) := by
  refine ⟨⟨[], [], [], [], [(22, 2), (30, 2), (1000037, 0), (1000062, 1)], []⟩, ?_⟩
  rw [show fnVC Try.prog [] (callOf Try.prog [] [whoC, byteC, halfC, wordC, setByteC, setHalfC, setWordC, GetC, SetC, rwordC, rsetWordC]) ⟨[], [], [], [], [(22, 2), (30, 2), (1000037, 0), (1000062, 1)], []⟩ Try.f38 ((Try.f38.body).getD .skip) (wordsCA t m0 m1 m2 l0 l1 l2 kd w N pa v b0 o c rd rv rf) (wordsCH t m0 m1 m2 l0 l1 l2 kd w N pa v b0 o c rd rv rf) (wordsCQ t m0 m1 m2 l0 l1 l2 kd w N pa v b0 o c rd rv rf) = ((whoN w = (0 : Int) → False) ∧ (whoN w = (1 : Int) → False) ∧ (whoN w = (2 : Int) → (whoN w = (0 : Int) → False) ∧ (whoN w = (1 : Int) → False) ∧ (whoN w = (2 : Int) → decide (kd = (1 : Int)) = false ∧ decide (kd = (2 : Int)) = true ∧ (PM.Inv t.N2 t.P2 ∧ t.N2 ≤ (65536 : Int) ∧ (0 : Int) ≤ t.N2 ∧ (0 : Int) ≤ pa) ∧ (RM.Inv t.N2 t.R2 ∧ (∀ (i : Nat), i < t.R2.cnt → l2 i = (0 : Nat)) ∧ t.N2 ≤ (65536 : Int) ∧ (0 : Int) ≤ t.N2 ∧ (0 : Int) ≤ pa ∧ ((2 : Int) = (1 : Int) ∨ (2 : Int) = (2 : Int) ∨ (2 : Int) = (4 : Int))) ∧ ((decide (IntKind.u64.wrap (if err t.N2 pa (2 : Int) = (0 : Int) then le t.P2.at_ pa (2 : Nat) else (0 : Int)) = if err t.N2 pa (2 : Int) = (0 : Int) then le t.R2.at_ pa (2 : Nat) else (0 : Int)) = true → decide (IntKind.u64.wrap (if err t.N2 pa (2 : Int) = (0 : Int) then le t.P2.at_ pa (2 : Nat) else (0 : Int)) = if err t.N2 pa (2 : Int) = (0 : Int) then le t.R2.at_ pa (2 : Nat) else (0 : Int)) = true) ∧ (decide (IntKind.u64.wrap (if err t.N2 pa (2 : Int) = (0 : Int) then le t.P2.at_ pa (2 : Nat) else (0 : Int)) = if err t.N2 pa (2 : Int) = (0 : Int) then le t.R2.at_ pa (2 : Nat) else (0 : Int)) = true → decide (IntKind.u64.wrap (if err t.N2 pa (2 : Int) = (0 : Int) then le t.P2.at_ pa (2 : Nat) else (0 : Int)) = if err t.N2 pa (2 : Int) = (0 : Int) then le t.R2.at_ pa (2 : Nat) else (0 : Int)) = true)) ∧ (decide (IntKind.u64.wrap (if err t.N2 pa (2 : Int) = (0 : Int) then le t.P2.at_ pa (2 : Nat) else (0 : Int)) = if err t.N2 pa (2 : Int) = (0 : Int) then le t.R2.at_ pa (2 : Nat) else (0 : Int)) = true → decide (IntKind.u64.wrap (if err t.N2 pa (2 : Int) = (0 : Int) then le t.P2.at_ pa (2 : Nat) else (0 : Int)) = if err t.N2 pa (2 : Int) = (0 : Int) then le t.R2.at_ pa (2 : Nat) else (0 : Int)) = true) ∧ ∃ (x : T3), x.Inv ∧ (bif decide (IntKind.u64.wrap (if err t.N2 pa (2 : Int) = (0 : Int) then le t.P2.at_ pa (2 : Nat) else (0 : Int)) = if err t.N2 pa (2 : Int) = (0 : Int) then le t.R2.at_ pa (2 : Nat) else (0 : Int)) then decide (err t.N2 pa (2 : Int) = err t.N2 pa (2 : Int)) else false) = true ∧ (SubB rd rv rf) ∧ Sub3 t.N0 t.N1 t.N2 t.P0 t.P1 t.P2 t.N0 t.N1 t.N2 t.R0 t.R1 t.R2 l0 l1 l2 x))) from by kernel_rfl]
  obtain ⟨hI, ⟨hl0, hl1, hl2⟩, h0, h1, h2⟩ := hn
  obtain ⟨hk, hw⟩ := hs
  simp only [T3.P0, T3.P1, T3.P2, T3.R0, T3.R1, T3.R2, T3.N0, T3.N1, T3.N2] at *
  have hp := hI.p 2 (by decide)
  have hr := hI.r 2 (by decide)
  have he := hI.e 2 (by decide)
  have hb := hI.n 2 (by decide)
  have key := rd_same2 hp he h0
  have hge : 0 ≤ t.n 2 := by omega
  have hle : t.n 2 ≤ 65536 := hb.2
  simp [hw, hk, key, hp, hr, hle, hge, h0]
  refine ⟨hl2, t, hI, SubB.refl _ _ _, rfl, SubM.refl _, SubF.refl _ _ _, rfl, SubM.refl _, SubF.refl _ _ _, rfl, SubM.refl _, SubF.refl _ _ _, rfl, SubR.refl hl0, SubF.refl _ _ _, rfl, SubR.refl hl1, SubF.refl _ _ _, rfl, SubR.refl hl2, SubF.refl _ _ _⟩
theorem wordsC_p0c6 (t : T3) (m0 m1 m2 : Int) (l0 l1 l2 : Nat → Nat) (kd w N pa v : Int) (b0 o c : Nat) (rd : Nat → Bool) (rv : Nat → Nat → Bool) (rf : Nat → Nat → Int) (hn : t.Inv ∧ ((∀ i, i < t.R0.cnt → l0 i = 0) ∧ (∀ i, i < t.R1.cnt → l1 i = 0) ∧ (∀ i, i < t.R2.cnt → l2 i = 0)) ∧ 0 ≤ pa ∧ 0 ≤ v ∧ v ≤ 4294967295) (hs : (kd = 3) ∧ whoN w = 0) : ∃ anns, fnVC Try.prog [] (callOf Try.prog [] [whoC, byteC, halfC, wordC, setByteC, setHalfC, setWordC, GetC, SetC, rwordC, rsetWordC]) anns Try.f38 ((Try.f38.body).getD .skip) (wordsCA t m0 m1 m2 l0 l1 l2 kd w N pa v b0 o c rd rv rf) (wordsCH t m0 m1 m2 l0 l1 l2 kd w N pa v b0 o c rd rv rf) (wordsCQ t m0 m1 m2 l0 l1 l2 kd w N pa v b0 o c rd rv rf) := by
  refine ⟨⟨[], [], [], [], [(22, 0), (30, 0), (1000037, 0), (1000062, 0), (1000087, 1)], []⟩, ?_⟩
  rw [show fnVC Try.prog [] (callOf Try.prog [] [whoC, byteC, halfC, wordC, setByteC, setHalfC, setWordC, GetC, SetC, rwordC, rsetWordC]) ⟨[], [], [], [], [(22, 0), (30, 0), (1000037, 0), (1000062, 0), (1000087, 1)], []⟩ Try.f38 ((Try.f38.body).getD .skip) (wordsCA t m0 m1 m2 l0 l1 l2 kd w N pa v b0 o c rd rv rf) (wordsCH t m0 m1 m2 l0 l1 l2 kd w N pa v b0 o c rd rv rf) (wordsCQ t m0 m1 m2 l0 l1 l2 kd w N pa v b0 o c rd rv rf) = ((whoN w = (1 : Int) → False) ∧ (whoN w = (2 : Int) → False) ∧ (whoN w = (0 : Int) → (whoN w = (1 : Int) → False) ∧ (whoN w = (2 : Int) → False) ∧ (whoN w = (0 : Int) → decide (kd = (1 : Int)) = false ∧ decide (kd = (2 : Int)) = false ∧ decide (kd = (3 : Int)) = true ∧ (PM.Inv t.N0 t.P0 ∧ t.N0 ≤ (65536 : Int) ∧ (0 : Int) ≤ t.N0 ∧ (0 : Int) ≤ pa) ∧ (RM.Inv t.N0 t.R0 ∧ (∀ (i : Nat), i < t.R0.cnt → l0 i = (0 : Nat)) ∧ t.N0 ≤ (65536 : Int) ∧ (0 : Int) ≤ t.N0 ∧ (0 : Int) ≤ pa) ∧ ((decide ((if err t.N0 pa (4 : Int) = (0 : Int) then le t.P0.at_ pa (4 : Nat) else (0 : Int)) = if err t.N0 pa (4 : Int) = (0 : Int) then le t.R0.at_ pa (4 : Nat) else (0 : Int)) = true → decide ((if err t.N0 pa (4 : Int) = (0 : Int) then le t.P0.at_ pa (4 : Nat) else (0 : Int)) = if err t.N0 pa (4 : Int) = (0 : Int) then le t.R0.at_ pa (4 : Nat) else (0 : Int)) = true) ∧ (decide ((if err t.N0 pa (4 : Int) = (0 : Int) then le t.P0.at_ pa (4 : Nat) else (0 : Int)) = if err t.N0 pa (4 : Int) = (0 : Int) then le t.R0.at_ pa (4 : Nat) else (0 : Int)) = true → decide ((if err t.N0 pa (4 : Int) = (0 : Int) then le t.P0.at_ pa (4 : Nat) else (0 : Int)) = if err t.N0 pa (4 : Int) = (0 : Int) then le t.R0.at_ pa (4 : Nat) else (0 : Int)) = true)) ∧ (decide ((if err t.N0 pa (4 : Int) = (0 : Int) then le t.P0.at_ pa (4 : Nat) else (0 : Int)) = if err t.N0 pa (4 : Int) = (0 : Int) then le t.R0.at_ pa (4 : Nat) else (0 : Int)) = true → decide ((if err t.N0 pa (4 : Int) = (0 : Int) then le t.P0.at_ pa (4 : Nat) else (0 : Int)) = if err t.N0 pa (4 : Int) = (0 : Int) then le t.R0.at_ pa (4 : Nat) else (0 : Int)) = true) ∧ ∃ (x : T3), x.Inv ∧ (bif decide ((if err t.N0 pa (4 : Int) = (0 : Int) then le t.P0.at_ pa (4 : Nat) else (0 : Int)) = if err t.N0 pa (4 : Int) = (0 : Int) then le t.R0.at_ pa (4 : Nat) else (0 : Int)) then decide (err t.N0 pa (4 : Int) = err t.N0 pa (4 : Int)) else false) = true ∧ (SubB rd rv rf) ∧ Sub3 t.N0 t.N1 t.N2 t.P0 t.P1 t.P2 t.N0 t.N1 t.N2 t.R0 t.R1 t.R2 l0 l1 l2 x))) from by kernel_rfl]
  obtain ⟨hI, ⟨hl0, hl1, hl2⟩, h0, h1, h2⟩ := hn
  obtain ⟨hk, hw⟩ := hs
  simp only [T3.P0, T3.P1, T3.P2, T3.R0, T3.R1, T3.R2, T3.N0, T3.N1, T3.N2] at *
  have hp := hI.p 0 (by decide)
  have hr := hI.r 0 (by decide)
  have he := hI.e 0 (by decide)
  have hb := hI.n 0 (by decide)
  have key := rd_same3 hp he h0
  have hge : 0 ≤ t.n 0 := by omega
  have hle : t.n 0 ≤ 65536 := hb.2
  simp [hw, hk, key, hp, hr, hle, hge, h0]
  refine ⟨hl0, t, hI, SubB.refl _ _ _, rfl, SubM.refl _, SubF.refl _ _ _, rfl, SubM.refl _, SubF.refl _ _ _, rfl, SubM.refl _, SubF.refl _ _ _, rfl, SubR.refl hl0, SubF.refl _ _ _, rfl, SubR.refl hl1, SubF.refl _ _ _, rfl, SubR.refl hl2, SubF.refl _ _ _⟩
theorem wordsC_p0c7 (t : T3) (m0 m1 m2 : Int) (l0 l1 l2 : Nat → Nat) (kd w N pa v : Int) (b0 o c : Nat) (rd : Nat → Bool) (rv : Nat → Nat → Bool) (rf : Nat → Nat → Int) (hn : t.Inv ∧ ((∀ i, i < t.R0.cnt → l0 i = 0) ∧ (∀ i, i < t.R1.cnt → l1 i = 0) ∧ (∀ i, i < t.R2.cnt → l2 i = 0)) ∧ 0 ≤ pa ∧ 0 ≤ v ∧ v ≤ 4294967295) (hs : (kd = 3) ∧ whoN w = 1) : ∃ anns, fnVC Try.prog [] (callOf Try.prog [] [whoC, byteC, halfC, wordC, setByteC, setHalfC, setWordC, GetC, SetC, rwordC, rsetWordC]) anns Try.f38 ((Try.f38.body).getD .skip) (wordsCA t m0 m1 m2 l0 l1 l2 kd w N pa v b0 o c rd rv rf) (wordsCH t m0 m1 m2 l0 l1 l2 kd w N pa v b0 o c rd rv rf) (wordsCQ t m0 m1 m2 l0 l1 l2 kd w N pa v b0 o c rd rv rf) := by
  refine ⟨⟨[], [], [], [], [(22, 1), (30, 1), (1000037, 0), (1000062, 0), (1000087, 1)], []⟩, ?_⟩
  rw [show fnVC Try.prog [] (callOf Try.prog [] [whoC, byteC, halfC, wordC, setByteC, setHalfC, setWordC, GetC, SetC, rwordC, rsetWordC]) ⟨[], [], [], [], [(22, 1), (30, 1), (1000037, 0), (1000062, 0), (1000087, 1)], []⟩ Try.f38 ((Try.f38.body).getD .skip) (wordsCA t m0 m1 m2 l0 l1 l2 kd w N pa v b0 o c rd rv rf) (wordsCH t m0 m1 m2 l0 l1 l2 kd w N pa v b0 o c rd rv rf) (wordsCQ t m0 m1 m2 l0 l1 l2 kd w N pa v b0 o c rd rv rf) = ((whoN w = (0 : Int) → False) ∧ (whoN w = (2 : Int) → False) ∧ (whoN w = (1 : Int) → (whoN w = (0 : Int) → False) ∧ (whoN w = (2 : Int) → False) ∧ (whoN w = (1 : Int) → decide (kd = (1 : Int)) = false ∧ decide (kd = (2 : Int)) = false ∧ decide (kd = (3 : Int)) = true ∧ (PM.Inv t.N1 t.P1 ∧ t.N1 ≤ (65536 : Int) ∧ (0 : Int) ≤ t.N1 ∧ (0 : Int) ≤ pa) ∧ (RM.Inv t.N1 t.R1 ∧ (∀ (i : Nat), i < t.R1.cnt → l1 i = (0 : Nat)) ∧ t.N1 ≤ (65536 : Int) ∧ (0 : Int) ≤ t.N1 ∧ (0 : Int) ≤ pa) ∧ ((decide ((if err t.N1 pa (4 : Int) = (0 : Int) then le t.P1.at_ pa (4 : Nat) else (0 : Int)) = if err t.N1 pa (4 : Int) = (0 : Int) then le t.R1.at_ pa (4 : Nat) else (0 : Int)) = true → decide ((if err t.N1 pa (4 : Int) = (0 : Int) then le t.P1.at_ pa (4 : Nat) else (0 : Int)) = if err t.N1 pa (4 : Int) = (0 : Int) then le t.R1.at_ pa (4 : Nat) else (0 : Int)) = true) ∧ (decide ((if err t.N1 pa (4 : Int) = (0 : Int) then le t.P1.at_ pa (4 : Nat) else (0 : Int)) = if err t.N1 pa (4 : Int) = (0 : Int) then le t.R1.at_ pa (4 : Nat) else (0 : Int)) = true → decide ((if err t.N1 pa (4 : Int) = (0 : Int) then le t.P1.at_ pa (4 : Nat) else (0 : Int)) = if err t.N1 pa (4 : Int) = (0 : Int) then le t.R1.at_ pa (4 : Nat) else (0 : Int)) = true)) ∧ (decide ((if err t.N1 pa (4 : Int) = (0 : Int) then le t.P1.at_ pa (4 : Nat) else (0 : Int)) = if err t.N1 pa (4 : Int) = (0 : Int) then le t.R1.at_ pa (4 : Nat) else (0 : Int)) = true → decide ((if err t.N1 pa (4 : Int) = (0 : Int) then le t.P1.at_ pa (4 : Nat) else (0 : Int)) = if err t.N1 pa (4 : Int) = (0 : Int) then le t.R1.at_ pa (4 : Nat) else (0 : Int)) = true) ∧ ∃ (x : T3), x.Inv ∧ (bif decide ((if err t.N1 pa (4 : Int) = (0 : Int) then le t.P1.at_ pa (4 : Nat) else (0 : Int)) = if err t.N1 pa (4 : Int) = (0 : Int) then le t.R1.at_ pa (4 : Nat) else (0 : Int)) then decide (err t.N1 pa (4 : Int) = err t.N1 pa (4 : Int)) else false) = true ∧ (SubB rd rv rf) ∧ Sub3 t.N0 t.N1 t.N2 t.P0 t.P1 t.P2 t.N0 t.N1 t.N2 t.R0 t.R1 t.R2 l0 l1 l2 x))) from by kernel_rfl]
  obtain ⟨hI, ⟨hl0, hl1, hl2⟩, h0, h1, h2⟩ := hn
  obtain ⟨hk, hw⟩ := hs
  simp only [T3.P0, T3.P1, T3.P2, T3.R0, T3.R1, T3.R2, T3.N0, T3.N1, T3.N2] at *
  have hp := hI.p 1 (by decide)
  have hr := hI.r 1 (by decide)
  have he := hI.e 1 (by decide)
  have hb := hI.n 1 (by decide)
  have key := rd_same3 hp he h0
  have hge : 0 ≤ t.n 1 := by omega
  have hle : t.n 1 ≤ 65536 := hb.2
  simp [hw, hk, key, hp, hr, hle, hge, h0]
  refine ⟨hl1, t, hI, SubB.refl _ _ _, rfl, SubM.refl _, SubF.refl _ _ _, rfl, SubM.refl _, SubF.refl _ _ _, rfl, SubM.refl _, SubF.refl _ _ _, rfl, SubR.refl hl0, SubF.refl _ _ _, rfl, SubR.refl hl1, SubF.refl _ _ _, rfl, SubR.refl hl2, SubF.refl _ _ _⟩
theorem wordsC_p0c8 (t : T3) (m0 m1 m2 : Int) (l0 l1 l2 : Nat → Nat) (kd w N pa v : Int) (b0 o c : Nat) (rd : Nat → Bool) (rv : Nat → Nat → Bool) (rf : Nat → Nat → Int) (hn : t.Inv ∧ ((∀ i, i < t.R0.cnt → l0 i = 0) ∧ (∀ i, i < t.R1.cnt → l1 i = 0) ∧ (∀ i, i < t.R2.cnt → l2 i = 0)) ∧ 0 ≤ pa ∧ 0 ≤ v ∧ v ≤ 4294967295) (hs : (kd = 3) ∧ whoN w = 2) : ∃ anns, fnVC Try.prog [] (callOf Try.prog [] [whoC, byteC, halfC, wordC, setByteC, setHalfC, setWordC, GetC, SetC, rwordC, rsetWordC]) anns Try.f38 ((Try.f38.body).getD .skip) (wordsCA t m0 m1 m2 l0 l1 l2 kd w N pa v b0 o c rd rv rf) (wordsCH t m0 m1 m2 l0 l1 l2 kd w N pa v b0 o c rd rv rf) (wordsCQ t m0 m1 m2 l0 l1 l2 kd w N pa v b0 o c rd rv rf) := by
  refine ⟨⟨[], [], [], [], [(22, 2), (30, 2), (1000037, 0), (1000062, 0), (1000087, 1)], []⟩, ?_⟩
  rw [show fnVC Try.prog [] (callOf Try.prog [] [whoC, byteC, halfC, wordC, setByteC, setHalfC, setWordC, GetC, SetC, rwordC, rsetWordC]) ⟨[], [], [], [], [(22, 2), (30, 2), (1000037, 0), (1000062, 0), (1000087, 1)], []⟩ Try.f38 ((Try.f38.body).getD .skip) (wordsCA t m0 m1 m2 l0 l1 l2 kd w N pa v b0 o c rd rv rf) (wordsCH t m0 m1 m2 l0 l1 l2 kd w N pa v b0 o c rd rv rf) (wordsCQ t m0 m1 m2 l0 l1 l2 kd w N pa v b0 o c rd rv rf) = ((whoN w = (0 : Int) → False) ∧ (whoN w = (1 : Int) → False) ∧ (whoN w = (2 : Int) → (whoN w = (0 : Int) → False) ∧ (whoN w = (1 : Int) → False) ∧ (whoN w = (2 : Int) → decide (kd = (1 : Int)) = false ∧ decide (kd = (2 : Int)) = false ∧ decide (kd = (3 : Int)) = true ∧ (PM.Inv t.N2 t.P2 ∧ t.N2 ≤ (65536 : Int) ∧ (0 : Int) ≤ t.N2 ∧ (0 : Int) ≤ pa) ∧ (RM.Inv t.N2 t.R2 ∧ (∀ (i : Nat), i < t.R2.cnt → l2 i = (0 : Nat)) ∧ t.N2 ≤ (65536 : Int) ∧ (0 : Int) ≤ t.N2 ∧ (0 : Int) ≤ pa) ∧ ((decide ((if err t.N2 pa (4 : Int) = (0 : Int) then le t.P2.at_ pa (4 : Nat) else (0 : Int)) = if err t.N2 pa (4 : Int) = (0 : Int) then le t.R2.at_ pa (4 : Nat) else (0 : Int)) = true → decide ((if err t.N2 pa (4 : Int) = (0 : Int) then le t.P2.at_ pa (4 : Nat) else (0 : Int)) = if err t.N2 pa (4 : Int) = (0 : Int) then le t.R2.at_ pa (4 : Nat) else (0 : Int)) = true) ∧ (decide ((if err t.N2 pa (4 : Int) = (0 : Int) then le t.P2.at_ pa (4 : Nat) else (0 : Int)) = if err t.N2 pa (4 : Int) = (0 : Int) then le t.R2.at_ pa (4 : Nat) else (0 : Int)) = true → decide ((if err t.N2 pa (4 : Int) = (0 : Int) then le t.P2.at_ pa (4 : Nat) else (0 : Int)) = if err t.N2 pa (4 : Int) = (0 : Int) then le t.R2.at_ pa (4 : Nat) else (0 : Int)) = true)) ∧ (decide ((if err t.N2 pa (4 : Int) = (0 : Int) then le t.P2.at_ pa (4 : Nat) else (0 : Int)) = if err t.N2 pa (4 : Int) = (0 : Int) then le t.R2.at_ pa (4 : Nat) else (0 : Int)) = true → decide ((if err t.N2 pa (4 : Int) = (0 : Int) then le t.P2.at_ pa (4 : Nat) else (0 : Int)) = if err t.N2 pa (4 : Int) = (0 : Int) then le t.R2.at_ pa (4 : Nat) else (0 : Int)) = true) ∧ ∃ (x : T3), x.Inv ∧ (bif decide ((if err t.N2 pa (4 : Int) = (0 : Int) then le t.P2.at_ pa (4 : Nat) else (0 : Int)) = if err t.N2 pa (4 : Int) = (0 : Int) then le t.R2.at_ pa (4 : Nat) else (0 : Int)) then decide (err t.N2 pa (4 : Int) = err t.N2 pa (4 : Int)) else false) = true ∧ (SubB rd rv rf) ∧ Sub3 t.N0 t.N1 t.N2 t.P0 t.P1 t.P2 t.N0 t.N1 t.N2 t.R0 t.R1 t.R2 l0 l1 l2 x))) from by kernel_rfl]
  obtain ⟨hI, ⟨hl0, hl1, hl2⟩, h0, h1, h2⟩ := hn
  obtain ⟨hk, hw⟩ := hs
  simp only [T3.P0, T3.P1, T3.P2, T3.R0, T3.R1, T3.R2, T3.N0, T3.N1, T3.N2] at *
  have hp := hI.p 2 (by decide)
  have hr := hI.r 2 (by decide)
  have he := hI.e 2 (by decide)
  have hb := hI.n 2 (by decide)
  have key := rd_same3 hp he h0
  have hge : 0 ≤ t.n 2 := by omega
  have hle : t.n 2 ≤ 65536 := hb.2
  simp [hw, hk, key, hp, hr, hle, hge, h0]
  refine ⟨hl2, t, hI, SubB.refl _ _ _, rfl, SubM.refl _, SubF.refl _ _ _, rfl, SubM.refl _, SubF.refl _ _ _, rfl, SubM.refl _, SubF.refl _ _ _, rfl, SubR.refl hl0, SubF.refl _ _ _, rfl, SubR.refl hl1, SubF.refl _ _ _, rfl, SubR.refl hl2, SubF.refl _ _ _⟩
theorem wordsC_p0c9 (t : T3) (m0 m1 m2 : Int) (l0 l1 l2 : Nat → Nat) (kd w N pa v : Int) (b0 o c : Nat) (rd : Nat → Bool) (rv : Nat → Nat → Bool) (rf : Nat → Nat → Int) (hn : t.Inv ∧ ((∀ i, i < t.R0.cnt → l0 i = 0) ∧ (∀ i, i < t.R1.cnt → l1 i = 0) ∧ (∀ i, i < t.R2.cnt → l2 i = 0)) ∧ 0 ≤ pa ∧ 0 ≤ v ∧ v ≤ 4294967295) (hs : (kd = 4) ∧ whoN w = 0) : ∃ anns, fnVC Try.prog [] (callOf Try.prog [] [whoC, byteC, halfC, wordC, setByteC, setHalfC, setWordC, GetC, SetC, rwordC, rsetWordC]) anns Try.f38 ((Try.f38.body).getD .skip) (wordsCA t m0 m1 m2 l0 l1 l2 kd w N pa v b0 o c rd rv rf) (wordsCH t m0 m1 m2 l0 l1 l2 kd w N pa v b0 o c rd rv rf) (wordsCQ t m0 m1 m2 l0 l1 l2 kd w N pa v b0 o c rd rv rf) := by
  refine ⟨⟨[], [], [], [15, 35, 37, 54, 55], [(22, 0), (30, 0), (1000037, 0), (1000062, 0), (1000087, 0), (1000111, 1)], []⟩, ?_⟩
  rw [show fnVC Try.prog [] (callOf Try.prog [] [whoC, byteC, halfC, wordC, setByteC, setHalfC, setWordC, GetC, SetC, rwordC, rsetWordC]) ⟨[], [], [], [15, 35, 37, 54, 55], [(22, 0), (30, 0), (1000037, 0), (1000062, 0), (1000087, 0), (1000111, 1)], []⟩ Try.f38 ((Try.f38.body).getD .skip) (wordsCA t m0 m1 m2 l0 l1 l2 kd w N pa v b0 o c rd rv rf) (wordsCH t m0 m1 m2 l0 l1 l2 kd w N pa v b0 o c rd rv rf) (wordsCQ t m0 m1 m2 l0 l1 l2 kd w N pa v b0 o c rd rv rf) = ((whoN w = (1 : Int) → False) ∧ (whoN w = (2 : Int) → False) ∧ (whoN w = (0 : Int) → (whoN w = (1 : Int) → False) ∧ (whoN w = (2 : Int) → False) ∧ (whoN w = (0 : Int) → decide (kd = (1 : Int)) = false ∧ decide (kd = (2 : Int)) = false ∧ decide (kd = (3 : Int)) = false ∧ decide (kd = (4 : Int)) = true ∧ (PM.Inv t.N0 t.P0 ∧ t.N0 ≤ (65536 : Int) ∧ (0 : Int) ≤ t.N0 ∧ (0 : Int) ≤ pa ∧ (0 : Int) ≤ IntKind.u8.wrap v ∧ IntKind.u8.wrap v ≤ (255 : Int)) ∧ ∀ (x : PM), (PM.Inv t.N0 x ∧ ∀ (b : Int), (0 : Int) ≤ b → x.at_ b = wrA t.N0 t.P0.at_ pa (1 : Int) (IntKind.u8.wrap v) b) → (RM.Inv t.N0 t.R0 ∧ (∀ (i : Nat), i < t.R0.cnt → l0 i = (0 : Nat)) ∧ t.N0 ≤ (65536 : Int) ∧ (0 : Int) ≤ t.N0 ∧ (0 : Int) ≤ pa ∧ ((1 : Int) = (1 : Int) ∨ (1 : Int) = (2 : Int) ∨ (1 : Int) = (4 : Int)) ∧ (0 : Int) ≤ IntKind.u64.wrap v ∧ IntKind.u64.wrap v ≤ (18446744073709551615 : Int)) ∧ ∀ (x_1 : RM), (RM.Inv t.N0 x_1 ∧ ∀ (b : Int), (0 : Int) ≤ b → x_1.at_ b = wrA t.N0 t.R0.at_ pa (1 : Int) (IntKind.u64.wrap v) b) → ∃ (x_2 : T3), x_2.Inv ∧ decide (err t.N0 pa (1 : Int) = err t.N0 pa (1 : Int)) = true ∧ (SubB rd rv rf) ∧ Sub3 t.N0 t.N1 t.N2 x t.P1 t.P2 t.N0 t.N1 t.N2 x_1 t.R1 t.R2 (fun _ => 0) l1 l2 x_2))) from by kernel_rfl]
  obtain ⟨hI, ⟨hl0, hl1, hl2⟩, h0, h1, h2⟩ := hn
  obtain ⟨hk, hw⟩ := hs
  simp only [T3.P0, T3.P1, T3.P2, T3.R0, T3.R1, T3.R2, T3.N0, T3.N1, T3.N2] at *
  have hp := hI.p 0 (by decide)
  have hr := hI.r 0 (by decide)
  have he := hI.e 0 (by decide)
  have hb := hI.n 0 (by decide)
  have hge : 0 ≤ t.n 0 := by omega
  have hle : t.n 0 ≤ 65536 := hb.2
  have e1 : IntKind.u8.wrap v = v % 256 := wrap_u8 v
  have e2 : IntKind.u16.wrap v = v % 65536 := wrap_u16' v
  have e3 : IntKind.u64.wrap v = v := wrap_u64 (by omega) (by omega)
  have hw1 : v % 256 ≤ 255 := by omega
  have hw2 : v % 65536 ≤ 65535 := by omega
  have hw3 : 0 ≤ v % 256 := by omega
  have hw4 : 0 ≤ v % 65536 := by omega
  have hw5 : v ≤ 18446744073709551615 := by omega
  simp [hw, hk, hp, hr, hle, hge, h0, h1, e1, e3, hw1, hw3, hw5]
  refine fun x hx hxa => ⟨hl0, fun y hy hya => ⟨t.set 0 (t.n 0) x y, hI.set 0 hb hx hy (fun b hb' => ?_), SubB.refl _ _ _, rfl, SubM.refl _, SubF.refl _ _ _, rfl, SubM.refl _, SubF.refl _ _ _, rfl, SubM.refl _, SubF.refl _ _ _, rfl, SubR.refl0 _, SubF.refl _ _ _, rfl, SubR.refl hl1, SubF.refl _ _ _, rfl, SubR.refl hl2, SubF.refl _ _ _⟩⟩
  rw [hxa b hb', hya b hb']
  exact wr_same1 he (show (0:Int) ≤ b from hb')
theorem wordsC_p0c10 (t : T3) (m0 m1 m2 : Int) (l0 l1 l2 : Nat → Nat) (kd w N pa v : Int) (b0 o c : Nat) (rd : Nat → Bool) (rv : Nat → Nat → Bool) (rf : Nat → Nat → Int) (hn : t.Inv ∧ ((∀ i, i < t.R0.cnt → l0 i = 0) ∧ (∀ i, i < t.R1.cnt → l1 i = 0) ∧ (∀ i, i < t.R2.cnt → l2 i = 0)) ∧ 0 ≤ pa ∧ 0 ≤ v ∧ v ≤ 4294967295) (hs : (kd = 4) ∧ whoN w = 1) : ∃ anns, fnVC Try.prog [] (callOf Try.prog [] [whoC, byteC, halfC, wordC, setByteC, setHalfC, setWordC, GetC, SetC, rwordC, rsetWordC]) anns Try.f38 ((Try.f38.body).getD .skip) (wordsCA t m0 m1 m2 l0 l1 l2 kd w N pa v b0 o c rd rv rf) (wordsCH t m0 m1 m2 l0 l1 l2 kd w N pa v b0 o c rd rv rf) (wordsCQ t m0 m1 m2 l0 l1 l2 kd w N pa v b0 o c rd rv rf) := by
  refine ⟨⟨[], [], [], [15, 35, 37, 54, 55], [(22, 1), (30, 1), (1000037, 0), (1000062, 0), (1000087, 0), (1000111, 1)], []⟩, ?_⟩
  rw [show fnVC Try.prog [] (callOf Try.prog [] [whoC, byteC, halfC, wordC, setByteC, setHalfC, setWordC, GetC, SetC, rwordC, rsetWordC]) ⟨[], [], [], [15, 35, 37, 54, 55], [(22, 1), (30, 1), (1000037, 0), (1000062, 0), (1000087, 0), (1000111, 1)], []⟩ Try.f38 ((Try.f38.body).getD .skip) (wordsCA t m0 m1 m2 l0 l1 l2 kd w N pa v b0 o c rd rv rf) (wordsCH t m0 m1 m2 l0 l1 l2 kd w N pa v b0 o c rd rv rf) (wordsCQ t m0 m1 m2 l0 l1 l2 kd w N pa v b0 o c rd rv rf) = ((whoN w = (0 : Int) → False) ∧ (whoN w = (2 : Int) → False) ∧ (whoN w = (1 : Int) → (whoN w = (0 : Int) → False) ∧ (whoN w = (2 : Int) → False) ∧ (whoN w = (1 : Int) → decide (kd = (1 : Int)) = false ∧ decide (kd = (2 : Int)) = false ∧ decide (kd = (3 : Int)) = false ∧ decide (kd = (4 : Int)) = true ∧ (PM.Inv t.N1 t.P1 ∧ t.N1 ≤ (65536 : Int) ∧ (0 : Int) ≤ t.N1 ∧ (0 : Int) ≤ pa ∧ (0 : Int) ≤ IntKind.u8.wrap v ∧ IntKind.u8.wrap v ≤ (255 : Int)) ∧ ∀ (x : PM), (PM.Inv t.N1 x ∧ ∀ (b : Int), (0 : Int) ≤ b → x.at_ b = wrA t.N1 t.P1.at_ pa (1 : Int) (IntKind.u8.wrap v) b) → (RM.Inv t.N1 t.R1 ∧ (∀ (i : Nat), i < t.R1.cnt → l1 i = (0 : Nat)) ∧ t.N1 ≤ (65536 : Int) ∧ (0 : Int) ≤ t.N1 ∧ (0 : Int) ≤ pa ∧ ((1 : Int) = (1 : Int) ∨ (1 : Int) = (2 : Int) ∨ (1 : Int) = (4 : Int)) ∧ (0 : Int) ≤ IntKind.u64.wrap v ∧ IntKind.u64.wrap v ≤ (18446744073709551615 : Int)) ∧ ∀ (x_1 : RM), (RM.Inv t.N1 x_1 ∧ ∀ (b : Int), (0 : Int) ≤ b → x_1.at_ b = wrA t.N1 t.R1.at_ pa (1 : Int) (IntKind.u64.wrap v) b) → ∃ (x_2 : T3), x_2.Inv ∧ decide (err t.N1 pa (1 : Int) = err t.N1 pa (1 : Int)) = true ∧ (SubB rd rv rf) ∧ Sub3 t.N0 t.N1 t.N2 t.P0 x t.P2 t.N0 t.N1 t.N2 t.R0 x_1 t.R2 l0 (fun _ => 0) l2 x_2))) from by kernel_rfl]
  obtain ⟨hI, ⟨hl0, hl1, hl2⟩, h0, h1, h2⟩ := hn
  obtain ⟨hk, hw⟩ := hs
  simp only [T3.P0, T3.P1, T3.P2, T3.R0, T3.R1, T3.R2, T3.N0, T3.N1, T3.N2] at *
  have hp := hI.p 1 (by decide)
  have hr := hI.r 1 (by decide)
  have he := hI.e 1 (by decide)
  have hb := hI.n 1 (by decide)
  have hge : 0 ≤ t.n 1 := by omega
  have hle : t.n 1 ≤ 65536 := hb.2
  have e1 : IntKind.u8.wrap v = v % 256 := wrap_u8 v
  have e2 : IntKind.u16.wrap v = v % 65536 := wrap_u16' v
  have e3 : IntKind.u64.wrap v = v := wrap_u64 (by omega) (by omega)
  have hw1 : v % 256 ≤ 255 := by omega
  have hw2 : v % 65536 ≤ 65535 := by omega
  have hw3 : 0 ≤ v % 256 := by omega
  have hw4 : 0 ≤ v % 65536 := by omega
  have hw5 : v ≤ 18446744073709551615 := by omega
  simp [hw, hk, hp, hr, hle, hge, h0, h1, e1, e3, hw1, hw3, hw5]
  refine fun x hx hxa => ⟨hl1, fun y hy hya => ⟨t.set 1 (t.n 1) x y, hI.set 1 hb hx hy (fun b hb' => ?_), SubB.refl _ _ _, rfl, SubM.refl _, SubF.refl _ _ _, rfl, SubM.refl _, SubF.refl _ _ _, rfl, SubM.refl _, SubF.refl _ _ _, rfl, SubR.refl hl0, SubF.refl _ _ _, rfl, SubR.refl0 _, SubF.refl _ _ _, rfl, SubR.refl hl2, SubF.refl _ _ _⟩⟩
  rw [hxa b hb', hya b hb']
  exact wr_same1 he (show (0:Int) ≤ b from hb')
theorem wordsC_p0c11 (t : T3) (m0 m1 m2 : Int) (l0 l1 l2 : Nat → Nat) (kd w N pa v : Int) (b0 o c : Nat) (rd : Nat → Bool) (rv : Nat → Nat → Bool) (rf : Nat → Nat → Int) (hn : t.Inv ∧ ((∀ i, i < t.R0.cnt → l0 i = 0) ∧ (∀ i, i < t.R1.cnt → l1 i = 0) ∧ (∀ i, i < t.R2.cnt → l2 i = 0)) ∧ 0 ≤ pa ∧ 0 ≤ v ∧ v ≤ 4294967295) (hs : (kd = 4) ∧ whoN w = 2) : ∃ anns, fnVC Try.prog [] (callOf Try.prog [] [whoC, byteC, halfC, wordC, setByteC, setHalfC, setWordC, GetC, SetC, rwordC, rsetWordC]) anns Try.f38 ((Try.f38.body).getD .skip) (wordsCA t m0 m1 m2 l0 l1 l2 kd w N pa v b0 o c rd rv rf) (wordsCH t m0 m1 m2 l0 l1 l2 kd w N pa v b0 o c rd rv rf) (wordsCQ t m0 m1 m2 l0 l1 l2 kd w N pa v b0 o c rd rv rf) := by
  refine ⟨⟨[], [], [], [15, 35, 37, 54, 55], [(22, 2), (30, 2), (1000037, 0), (1000062, 0), (1000087, 0), (1000111, 1)], []⟩, ?_⟩
  rw [show fnVC Try.prog [] (callOf Try.prog [] [whoC, byteC, halfC, wordC, setByteC, setHalfC, setWordC, GetC, SetC, rwordC, rsetWordC]) ⟨[], [], [], [15, 35, 37, 54, 55], [(22, 2), (30, 2), (1000037, 0), (1000062, 0), (1000087, 0), (1000111, 1)], []⟩ Try.f38 ((Try.f38.body).getD .skip) (wordsCA t m0 m1 m2 l0 l1 l2 kd w N pa v b0 o c rd rv rf) (wordsCH t m0 m1 m2 l0 l1 l2 kd w N pa v b0 o c rd rv rf) (wordsCQ t m0 m1 m2 l0 l1 l2 kd w N pa v b0 o c rd rv rf) = ((whoN w = (0 : Int) → False) ∧ (whoN w = (1 : Int) → False) ∧ (whoN w = (2 : Int) → (whoN w = (0 : Int) → False) ∧ (whoN w = (1 : Int) → False) ∧ (whoN w = (2 : Int) → decide (kd = (1 : Int)) = false ∧ decide (kd = (2 : Int)) = false ∧ decide (kd = (3 : Int)) = false ∧ decide (kd = (4 : Int)) = true ∧ (PM.Inv t.N2 t.P2 ∧ t.N2 ≤ (65536 : Int) ∧ (0 : Int) ≤ t.N2 ∧ (0 : Int) ≤ pa ∧ (0 : Int) ≤ IntKind.u8.wrap v ∧ IntKind.u8.wrap v ≤ (255 : Int)) ∧ ∀ (x : PM), (PM.Inv t.N2 x ∧ ∀ (b : Int), (0 : Int) ≤ b → x.at_ b = wrA t.N2 t.P2.at_ pa (1 : Int) (IntKind.u8.wrap v) b) → (RM.Inv t.N2 t.R2 ∧ (∀ (i : Nat), i < t.R2.cnt → l2 i = (0 : Nat)) ∧ t.N2 ≤ (65536 : Int) ∧ (0 : Int) ≤ t.N2 ∧ (0 : Int) ≤ pa ∧ ((1 : Int) = (1 : Int) ∨ (1 : Int) = (2 : Int) ∨ (1 : Int) = (4 : Int)) ∧ (0 : Int) ≤ IntKind.u64.wrap v ∧ IntKind.u64.wrap v ≤ (18446744073709551615 : Int)) ∧ ∀ (x_1 : RM), (RM.Inv t.N2 x_1 ∧ ∀ (b : Int), (0 : Int) ≤ b → x_1.at_ b = wrA t.N2 t.R2.at_ pa (1 : Int) (IntKind.u64.wrap v) b) → ∃ (x_2 : T3), x_2.Inv ∧ decide (err t.N2 pa (1 : Int) = err t.N2 pa (1 : Int)) = true ∧ (SubB rd rv rf) ∧ Sub3 t.N0 t.N1 t.N2 t.P0 t.P1 x t.N0 t.N1 t.N2 t.R0 t.R1 x_1 l0 l1 (fun _ => 0) x_2))) from by kernel_rfl]
  obtain ⟨hI, ⟨hl0, hl1, hl2⟩, h0, h1, h2⟩ := hn
  obtain ⟨hk, hw⟩ := hs
  simp only [T3.P0, T3.P1, T3.P2, T3.R0, T3.R1, T3.R2, T3.N0, T3.N1, T3.N2] at *
  have hp := hI.p 2 (by decide)
  have hr := hI.r 2 (by decide)
  have he := hI.e 2 (by decide)
  have hb := hI.n 2 (by decide)
  have hge : 0 ≤ t.n 2 := by omega
  have hle : t.n 2 ≤ 65536 := hb.2
  have e1 : IntKind.u8.wrap v = v % 256 := wrap_u8 v
  have e2 : IntKind.u16.wrap v = v % 65536 := wrap_u16' v
  have e3 : IntKind.u64.wrap v = v := wrap_u64 (by omega) (by omega)
  have hw1 : v % 256 ≤ 255 := by omega
  have hw2 : v % 65536 ≤ 65535 := by omega
  have hw3 : 0 ≤ v % 256 := by omega
  have hw4 : 0 ≤ v % 65536 := by omega
  have hw5 : v ≤ 18446744073709551615 := by omega
  simp [hw, hk, hp, hr, hle, hge, h0, h1, e1, e3, hw1, hw3, hw5]
  refine fun x hx hxa => ⟨hl2, fun y hy hya => ⟨t.set 2 (t.n 2) x y, hI.set 2 hb hx hy (fun b hb' => ?_), SubB.refl _ _ _, rfl, SubM.refl _, SubF.refl _ _ _, rfl, SubM.refl _, SubF.refl _ _ _, rfl, SubM.refl _, SubF.refl _ _ _, rfl, SubR.refl hl0, SubF.refl _ _ _, rfl, SubR.refl hl1, SubF.refl _ _ _, rfl, SubR.refl0 _, SubF.refl _ _ _⟩⟩
  rw [hxa b hb', hya b hb']
  exact wr_same1 he (show (0:Int) ≤ b from hb')
theorem wordsC_p0c12 (t : T3) (m0 m1 m2 : Int) (l0 l1 l2 : Nat → Nat) (kd w N pa v : Int) (b0 o c : Nat) (rd : Nat → Bool) (rv : Nat → Nat → Bool) (rf : Nat → Nat → Int) (hn : t.Inv ∧ ((∀ i, i < t.R0.cnt → l0 i = 0) ∧ (∀ i, i < t.R1.cnt → l1 i = 0) ∧ (∀ i, i < t.R2.cnt → l2 i = 0)) ∧ 0 ≤ pa ∧ 0 ≤ v ∧ v ≤ 4294967295) (hs : (kd = 5) ∧ whoN w = 0) : ∃ anns, fnVC Try.prog [] (callOf Try.prog [] [whoC, byteC, halfC, wordC, setByteC, setHalfC, setWordC, GetC, SetC, rwordC, rsetWordC]) anns Try.f38 ((Try.f38.body).getD .skip) (wordsCA t m0 m1 m2 l0 l1 l2 kd w N pa v b0 o c rd rv rf) (wordsCH t m0 m1 m2 l0 l1 l2 kd w N pa v b0 o c rd rv rf) (wordsCQ t m0 m1 m2 l0 l1 l2 kd w N pa v b0 o c rd rv rf) := by
  refine ⟨⟨[], [], [], [15, 35, 37, 54, 55], [(22, 0), (30, 0), (1000037, 0), (1000062, 0), (1000087, 0), (1000111, 0), (1000128, 1)], []⟩, ?_⟩
  rw [show fnVC Try.prog [] (callOf Try.prog [] [whoC, byteC, halfC, wordC, setByteC, setHalfC, setWordC, GetC, SetC, rwordC, rsetWordC]) ⟨[], [], [], [15, 35, 37, 54, 55], [(22, 0), (30, 0), (1000037, 0), (1000062, 0), (1000087, 0), (1000111, 0), (1000128, 1)], []⟩ Try.f38 ((Try.f38.body).getD .skip) (wordsCA t m0 m1 m2 l0 l1 l2 kd w N pa v b0 o c rd rv rf) (wordsCH t m0 m1 m2 l0 l1 l2 kd w N pa v b0 o c rd rv rf) (wordsCQ t m0 m1 m2 l0 l1 l2 kd w N pa v b0 o c rd rv rf) = ((whoN w = (1 : Int) → False) ∧ (whoN w = (2 : Int) → False) ∧ (whoN w = (0 : Int) → (whoN w = (1 : Int) → False) ∧ (whoN w = (2 : Int) → False) ∧ (whoN w = (0 : Int) → decide (kd = (1 : Int)) = false ∧ decide (kd = (2 : Int)) = false ∧ decide (kd = (3 : Int)) = false ∧ decide (kd = (4 : Int)) = false ∧ decide (kd = (5 : Int)) = true ∧ (PM.Inv t.N0 t.P0 ∧ t.N0 ≤ (65536 : Int) ∧ (0 : Int) ≤ t.N0 ∧ (0 : Int) ≤ pa ∧ (0 : Int) ≤ IntKind.u16.wrap v ∧ IntKind.u16.wrap v ≤ (65535 : Int)) ∧ ∀ (x : PM), (PM.Inv t.N0 x ∧ ∀ (b : Int), (0 : Int) ≤ b → x.at_ b = wrA t.N0 t.P0.at_ pa (2 : Int) (IntKind.u16.wrap v) b) → (RM.Inv t.N0 t.R0 ∧ (∀ (i : Nat), i < t.R0.cnt → l0 i = (0 : Nat)) ∧ t.N0 ≤ (65536 : Int) ∧ (0 : Int) ≤ t.N0 ∧ (0 : Int) ≤ pa ∧ ((2 : Int) = (1 : Int) ∨ (2 : Int) = (2 : Int) ∨ (2 : Int) = (4 : Int)) ∧ (0 : Int) ≤ IntKind.u64.wrap v ∧ IntKind.u64.wrap v ≤ (18446744073709551615 : Int)) ∧ ∀ (x_1 : RM), (RM.Inv t.N0 x_1 ∧ ∀ (b : Int), (0 : Int) ≤ b → x_1.at_ b = wrA t.N0 t.R0.at_ pa (2 : Int) (IntKind.u64.wrap v) b) → ∃ (x_2 : T3), x_2.Inv ∧ decide (err t.N0 pa (2 : Int) = err t.N0 pa (2 : Int)) = true ∧ (SubB rd rv rf) ∧ Sub3 t.N0 t.N1 t.N2 x t.P1 t.P2 t.N0 t.N1 t.N2 x_1 t.R1 t.R2 (fun _ => 0) l1 l2 x_2))) from by kernel_rfl]
  obtain ⟨hI, ⟨hl0, hl1, hl2⟩, h0, h1, h2⟩ := hn
  obtain ⟨hk, hw⟩ := hs
  simp only [T3.P0, T3.P1, T3.P2, T3.R0, T3.R1, T3.R2, T3.N0, T3.N1, T3.N2] at *
  have hp := hI.p 0 (by decide)
  have hr := hI.r 0 (by decide)
  have he := hI.e 0 (by decide)
  have hb := hI.n 0 (by decide)
  have hge : 0 ≤ t.n 0 := by omega
  have hle : t.n 0 ≤ 65536 := hb.2
  have e1 : IntKind.u8.wrap v = v % 256 := wrap_u8 v
  have e2 : IntKind.u16.wrap v = v % 65536 := wrap_u16' v
  have e3 : IntKind.u64.wrap v = v := wrap_u64 (by omega) (by omega)
  have hw1 : v % 256 ≤ 255 := by omega
  have hw2 : v % 65536 ≤ 65535 := by omega
  have hw3 : 0 ≤ v % 256 := by omega
  have hw4 : 0 ≤ v % 65536 := by omega
  have hw5 : v ≤ 18446744073709551615 := by omega
  simp [hw, hk, hp, hr, hle, hge, h0, h1, e2, e3, hw2, hw4, hw5]
  refine fun x hx hxa => ⟨hl0, fun y hy hya => ⟨t.set 0 (t.n 0) x y, hI.set 0 hb hx hy (fun b hb' => ?_), SubB.refl _ _ _, rfl, SubM.refl _, SubF.refl _ _ _, rfl, SubM.refl _, SubF.refl _ _ _, rfl, SubM.refl _, SubF.refl _ _ _, rfl, SubR.refl0 _, SubF.refl _ _ _, rfl, SubR.refl hl1, SubF.refl _ _ _, rfl, SubR.refl hl2, SubF.refl _ _ _⟩⟩
  rw [hxa b hb', hya b hb']
  exact wr_same2 he (show (0:Int) ≤ b from hb')
theorem wordsC_p0c13 (t : T3) (m0 m1 m2 : Int) (l0 l1 l2 : Nat → Nat) (kd w N pa v : Int) (b0 o c : Nat) (rd : Nat → Bool) (rv : Nat → Nat → Bool) (rf : Nat → Nat → Int) (hn : t.Inv ∧ ((∀ i, i < t.R0.cnt → l0 i = 0) ∧ (∀ i, i < t.R1.cnt → l1 i = 0) ∧ (∀ i, i < t.R2.cnt → l2 i = 0)) ∧ 0 ≤ pa ∧ 0 ≤ v ∧ v ≤ 4294967295) (hs : (kd = 5) ∧ whoN w = 1) : ∃ anns, fnVC Try.prog [] (callOf Try.prog [] [whoC, byteC, halfC, wordC, setByteC, setHalfC, setWordC, GetC, SetC, rwordC, rsetWordC]) anns Try.f38 ((Try.f38.body).getD .skip) (wordsCA t m0 m1 m2 l0 l1 l2 kd w N pa v b0 o c rd rv rf) (wordsCH t m0 m1 m2 l0 l1 l2 kd w N pa v b0 o c rd rv rf) (wordsCQ t m0 m1 m2 l0 l1 l2 kd w N pa v b0 o c rd rv rf) := by
  refine ⟨⟨[], [], [], [15, 35, 37, 54, 55], [(22, 1), (30, 1), (1000037, 0), (1000062, 0), (1000087, 0), (1000111, 0), (1000128, 1)], []⟩, ?_⟩
  rw [show fnVC Try.prog [] (callOf Try.prog [] [whoC, byteC, halfC, wordC, setByteC, setHalfC, setWordC, GetC, SetC, rwordC, rsetWordC]) ⟨[], [], [], [15, 35, 37, 54, 55], [(22, 1), (30, 1), (1000037, 0), (1000062, 0), (1000087, 0), (1000111, 0), (1000128, 1)], []⟩ Try.f38 ((Try.f38.body).getD .skip) (wordsCA t m0 m1 m2 l0 l1 l2 kd w N pa v b0 o c rd rv rf) (wordsCH t m0 m1 m2 l0 l1 l2 kd w N pa v b0 o c rd rv rf) (wordsCQ t m0 m1 m2 l0 l1 l2 kd w N pa v b0 o c rd rv rf) = ((whoN w = (0 : Int) → False) ∧ (whoN w = (2 : Int) → False) ∧ (whoN w = (1 : Int) → (whoN w = (0 : Int) → False) ∧ (whoN w = (2 : Int) → False) ∧ (whoN w = (1 : Int) → decide (kd = (1 : Int)) = false ∧ decide (kd = (2 : Int)) = false ∧ decide (kd = (3 : Int)) = false ∧ decide (kd = (4 : Int)) = false ∧ decide (kd = (5 : Int)) = true ∧ (PM.Inv t.N1 t.P1 ∧ t.N1 ≤ (65536 : Int) ∧ (0 : Int) ≤ t.N1 ∧ (0 : Int) ≤ pa ∧ (0 : Int) ≤ IntKind.u16.wrap v ∧ IntKind.u16.wrap v ≤ (65535 : Int)) ∧ ∀ (x : PM), (PM.Inv t.N1 x ∧ ∀ (b : Int), (0 : Int) ≤ b → x.at_ b = wrA t.N1 t.P1.at_ pa (2 : Int) (IntKind.u16.wrap v) b) → (RM.Inv t.N1 t.R1 ∧ (∀ (i : Nat), i < t.R1.cnt → l1 i = (0 : Nat)) ∧ t.N1 ≤ (65536 : Int) ∧ (0 : Int) ≤ t.N1 ∧ (0 : Int) ≤ pa ∧ ((2 : Int) = (1 : Int) ∨ (2 : Int) = (2 : Int) ∨ (2 : Int) = (4 : Int)) ∧ (0 : Int) ≤ IntKind.u64.wrap v ∧ IntKind.u64.wrap v ≤ (18446744073709551615 : Int)) ∧ ∀ (x_1 : RM), (RM.Inv t.N1 x_1 ∧ ∀ (b : Int), (0 : Int) ≤ b → x_1.at_ b = wrA t.N1 t.R1.at_ pa (2 : Int) (IntKind.u64.wrap v) b) → ∃ (x_2 : T3), x_2.Inv ∧ decide (err t.N1 pa (2 : Int) = err t.N1 pa (2 : Int)) = true ∧ (SubB rd rv rf) ∧ Sub3 t.N0 t.N1 t.N2 t.P0 x t.P2 t.N0 t.N1 t.N2 t.R0 x_1 t.R2 l0 (fun _ => 0) l2 x_2))) from by kernel_rfl]
  obtain ⟨hI, ⟨hl0, hl1, hl2⟩, h0, h1, h2⟩ := hn
  obtain ⟨hk, hw⟩ := hs
  simp only [T3.P0, T3.P1, T3.P2, T3.R0, T3.R1, T3.R2, T3.N0, T3.N1, T3.N2] at *
  have hp := hI.p 1 (by decide)
  have hr := hI.r 1 (by decide)
  have he := hI.e 1 (by decide)
  have hb := hI.n 1 (by decide)
  have hge : 0 ≤ t.n 1 := by omega
  have hle : t.n 1 ≤ 65536 := hb.2
  have e1 : IntKind.u8.wrap v = v % 256 := wrap_u8 v
  have e2 : IntKind.u16.wrap v = v % 65536 := wrap_u16' v
  have e3 : IntKind.u64.wrap v = v := wrap_u64 (by omega) (by omega)
  have hw1 : v % 256 ≤ 255 := by omega
  have hw2 : v % 65536 ≤ 65535 := by omega
  have hw3 : 0 ≤ v % 256 := by omega
  have hw4 : 0 ≤ v % 65536 := by omega
  have hw5 : v ≤ 18446744073709551615 := by omega
  simp [hw, hk, hp, hr, hle, hge, h0, h1, e2, e3, hw2, hw4, hw5]
  refine fun x hx hxa => ⟨hl1, fun y hy hya => ⟨t.set 1 (t.n 1) x y, hI.set 1 hb hx hy (fun b hb' => ?_), SubB.refl _ _ _, rfl, SubM.refl _, SubF.refl _ _ _, rfl, SubM.refl _, SubF.refl _ _ _, rfl, SubM.refl _, SubF.refl _ _ _, rfl, SubR.refl hl0, SubF.refl _ _ _, rfl, SubR.refl0 _, SubF.refl _ _ _, rfl, SubR.refl hl2, SubF.refl _ _ _⟩⟩
  rw [hxa b hb', hya b hb']
  exact wr_same2 he (show (0:Int) ≤ b from hb')
theorem wordsC_p0c14 (t : T3) (m0 m1 m2 : Int) (l0 l1 l2 : Nat → Nat) (kd w N pa v : Int) (b0 o c : Nat) (rd : Nat → Bool) (rv : Nat → Nat → Bool) (rf : Nat → Nat → Int) (hn : t.Inv ∧ ((∀ i, i < t.R0.cnt → l0 i = 0) ∧ (∀ i, i < t.R1.cnt → l1 i = 0) ∧ (∀ i, i < t.R2.cnt → l2 i = 0)) ∧ 0 ≤ pa ∧ 0 ≤ v ∧ v ≤ 4294967295) (hs : (kd = 5) ∧ whoN w = 2) : ∃ anns, fnVC Try.prog [] (callOf Try.prog [] [whoC, byteC, halfC, wordC, setByteC, setHalfC, setWordC, GetC, SetC, rwordC, rsetWordC]) anns Try.f38 ((Try.f38.body).getD .skip) (wordsCA t m0 m1 m2 l0 l1 l2 kd w N pa v b0 o c rd rv rf) (wordsCH t m0 m1 m2 l0 l1 l2 kd w N pa v b0 o c rd rv rf) (wordsCQ t m0 m1 m2 l0 l1 l2 kd w N pa v b0 o c rd rv rf) := by
  refine ⟨⟨[], [], [], [15, 35, 37, 54, 55], [(22, 2), (30, 2), (1000037, 0), (1000062, 0), (1000087, 0), (1000111, 0), (1000128, 1)], []⟩, ?_⟩
  rw [show fnVC Try.prog [] (callOf Try.prog [] [whoC, byteC, halfC, wordC, setByteC, setHalfC, setWordC, GetC, SetC, rwordC, rsetWordC]) ⟨[], [], [], [15, 35, 37, 54, 55], [(22, 2), (30, 2), (1000037, 0), (1000062, 0), (1000087, 0), (1000111, 0), (1000128, 1)], []⟩ Try.f38 ((Try.f38.body).getD .skip) (wordsCA t m0 m1 m2 l0 l1 l2 kd w N pa v b0 o c rd rv rf) (wordsCH t m0 m1 m2 l0 l1 l2 kd w N pa v b0 o c rd rv rf) (wordsCQ t m0 m1 m2 l0 l1 l2 kd w N pa v b0 o c rd rv rf) = ((whoN w = (0 : Int) → False) ∧ (whoN w = (1 : Int) → False) ∧ (whoN w = (2 : Int) → (whoN w = (0 : Int) → False) ∧ (whoN w = (1 : Int) → False) ∧ (whoN w = (2 : Int) → decide (kd = (1 : Int)) = false ∧ decide (kd = (2 : Int)) = false ∧ decide (kd = (3 : Int)) = false ∧ decide (kd = (4 : Int)) = false ∧ decide (kd = (5 : Int)) = true ∧ (PM.Inv t.N2 t.P2 ∧ t.N2 ≤ (65536 : Int) ∧ (0 : Int) ≤ t.N2 ∧ (0 : Int) ≤ pa ∧ (0 : Int) ≤ IntKind.u16.wrap v ∧ IntKind.u16.wrap v ≤ (65535 : Int)) ∧ ∀ (x : PM), (PM.Inv t.N2 x ∧ ∀ (b : Int), (0 : Int) ≤ b → x.at_ b = wrA t.N2 t.P2.at_ pa (2 : Int) (IntKind.u16.wrap v) b) → (RM.Inv t.N2 t.R2 ∧ (∀ (i : Nat), i < t.R2.cnt → l2 i = (0 : Nat)) ∧ t.N2 ≤ (65536 : Int) ∧ (0 : Int) ≤ t.N2 ∧ (0 : Int) ≤ pa ∧ ((2 : Int) = (1 : Int) ∨ (2 : Int) = (2 : Int) ∨ (2 : Int) = (4 : Int)) ∧ (0 : Int) ≤ IntKind.u64.wrap v ∧ IntKind.u64.wrap v ≤ (18446744073709551615 : Int)) ∧ ∀ (x_1 : RM), (RM.Inv t.N2 x_1 ∧ ∀ (b : Int), (0 : Int) ≤ b → x_1.at_ b = wrA t.N2 t.R2.at_ pa (2 : Int) (IntKind.u64.wrap v) b) → ∃ (x_2 : T3), x_2.Inv ∧ decide (err t.N2 pa (2 : Int) = err t.N2 pa (2 : Int)) = true ∧ (SubB rd rv rf) ∧ Sub3 t.N0 t.N1 t.N2 t.P0 t.P1 x t.N0 t.N1 t.N2 t.R0 t.R1 x_1 l0 l1 (fun _ => 0) x_2))) from by kernel_rfl]
  obtain ⟨hI, ⟨hl0, hl1, hl2⟩, h0, h1, h2⟩ := hn
  obtain ⟨hk, hw⟩ := hs
  simp only [T3.P0, T3.P1, T3.P2, T3.R0, T3.R1, T3.R2, T3.N0, T3.N1, T3.N2] at *
  have hp := hI.p 2 (by decide)
  have hr := hI.r 2 (by decide)
  have he := hI.e 2 (by decide)
  have hb := hI.n 2 (by decide)
  have hge : 0 ≤ t.n 2 := by omega
  have hle : t.n 2 ≤ 65536 := hb.2
  have e1 : IntKind.u8.wrap v = v % 256 := wrap_u8 v
  have e2 : IntKind.u16.wrap v = v % 65536 := wrap_u16' v
  have e3 : IntKind.u64.wrap v = v := wrap_u64 (by omega) (by omega)
  have hw1 : v % 256 ≤ 255 := by omega
  have hw2 : v % 65536 ≤ 65535 := by omega
  have hw3 : 0 ≤ v % 256 := by omega
  have hw4 : 0 ≤ v % 65536 := by omega
  have hw5 : v ≤ 18446744073709551615 := by omega
  simp [hw, hk, hp, hr, hle, hge, h0, h1, e2, e3, hw2, hw4, hw5]
  refine fun x hx hxa => ⟨hl2, fun y hy hya => ⟨t.set 2 (t.n 2) x y, hI.set 2 hb hx hy (fun b hb' => ?_), SubB.refl _ _ _, rfl, SubM.refl _, SubF.refl _ _ _, rfl, SubM.refl _, SubF.refl _ _ _, rfl, SubM.refl _, SubF.refl _ _ _, rfl, SubR.refl hl0, SubF.refl _ _ _, rfl, SubR.refl hl1, SubF.refl _ _ _, rfl, SubR.refl0 _, SubF.refl _ _ _⟩⟩
  rw [hxa b hb', hya b hb']
  exact wr_same2 he (show (0:Int) ≤ b from hb')
theorem wordsC_p0c15 (t : T3) (m0 m1 m2 : Int) (l0 l1 l2 : Nat → Nat) (kd w N pa v : Int) (b0 o c : Nat) (rd : Nat → Bool) (rv : Nat → Nat → Bool) (rf : Nat → Nat → Int) (hn : t.Inv ∧ ((∀ i, i < t.R0.cnt → l0 i = 0) ∧ (∀ i, i < t.R1.cnt → l1 i = 0) ∧ (∀ i, i < t.R2.cnt → l2 i = 0)) ∧ 0 ≤ pa ∧ 0 ≤ v ∧ v ≤ 4294967295) (hs : (kd ≠ 1 ∧ kd ≠ 2 ∧ kd ≠ 3 ∧ kd ≠ 4 ∧ kd ≠ 5) ∧ whoN w = 0) : ∃ anns, fnVC Try.prog [] (callOf Try.prog [] [whoC, byteC, halfC, wordC, setByteC, setHalfC, setWordC, GetC, SetC, rwordC, rsetWordC]) anns Try.f38 ((Try.f38.body).getD .skip) (wordsCA t m0 m1 m2 l0 l1 l2 kd w N pa v b0 o c rd rv rf) (wordsCH t m0 m1 m2 l0 l1 l2 kd w N pa v b0 o c rd rv rf) (wordsCQ t m0 m1 m2 l0 l1 l2 kd w N pa v b0 o c rd rv rf) := by
  refine ⟨⟨[], [], [], [15, 35, 37, 54, 55], [(22, 0), (30, 0), (1000037, 0), (1000062, 0), (1000087, 0), (1000111, 0), (1000128, 0)], []⟩, ?_⟩
  rw [show fnVC Try.prog [] (callOf Try.prog [] [whoC, byteC, halfC, wordC, setByteC, setHalfC, setWordC, GetC, SetC, rwordC, rsetWordC]) ⟨[], [], [], [15, 35, 37, 54, 55], [(22, 0), (30, 0), (1000037, 0), (1000062, 0), (1000087, 0), (1000111, 0), (1000128, 0)], []⟩ Try.f38 ((Try.f38.body).getD .skip) (wordsCA t m0 m1 m2 l0 l1 l2 kd w N pa v b0 o c rd rv rf) (wordsCH t m0 m1 m2 l0 l1 l2 kd w N pa v b0 o c rd rv rf) (wordsCQ t m0 m1 m2 l0 l1 l2 kd w N pa v b0 o c rd rv rf) = ((whoN w = (1 : Int) → False) ∧ (whoN w = (2 : Int) → False) ∧ (whoN w = (0 : Int) → (whoN w = (1 : Int) → False) ∧ (whoN w = (2 : Int) → False) ∧ (whoN w = (0 : Int) → decide (kd = (1 : Int)) = false ∧ decide (kd = (2 : Int)) = false ∧ decide (kd = (3 : Int)) = false ∧ decide (kd = (4 : Int)) = false ∧ decide (kd = (5 : Int)) = false ∧ (PM.Inv t.N0 t.P0 ∧ t.N0 ≤ (65536 : Int) ∧ (0 : Int) ≤ t.N0 ∧ (0 : Int) ≤ pa ∧ (0 : Int) ≤ v ∧ v ≤ (4294967295 : Int)) ∧ ∀ (x : PM), (PM.Inv t.N0 x ∧ ∀ (b : Int), (0 : Int) ≤ b → x.at_ b = wrA t.N0 t.P0.at_ pa (4 : Int) v b) → (RM.Inv t.N0 t.R0 ∧ (∀ (i : Nat), i < t.R0.cnt → l0 i = (0 : Nat)) ∧ t.N0 ≤ (65536 : Int) ∧ (0 : Int) ≤ t.N0 ∧ (0 : Int) ≤ pa ∧ (0 : Int) ≤ v ∧ v ≤ (4294967295 : Int)) ∧ ∀ (x_1 : RM), (RM.Inv t.N0 x_1 ∧ ∀ (b : Int), (0 : Int) ≤ b → x_1.at_ b = wrA t.N0 t.R0.at_ pa (4 : Int) v b) → ∃ (x_2 : T3), x_2.Inv ∧ decide (err t.N0 pa (4 : Int) = err t.N0 pa (4 : Int)) = true ∧ (SubB rd rv rf) ∧ Sub3 t.N0 t.N1 t.N2 x t.P1 t.P2 t.N0 t.N1 t.N2 x_1 t.R1 t.R2 (fun _ => 0) l1 l2 x_2))) from by kernel_rfl]
  obtain ⟨hI, ⟨hl0, hl1, hl2⟩, h0, h1, h2⟩ := hn
  obtain ⟨hk, hw⟩ := hs
  simp only [T3.P0, T3.P1, T3.P2, T3.R0, T3.R1, T3.R2, T3.N0, T3.N1, T3.N2] at *
  have hp := hI.p 0 (by decide)
  have hr := hI.r 0 (by decide)
  have he := hI.e 0 (by decide)
  have hb := hI.n 0 (by decide)
  have hge : 0 ≤ t.n 0 := by omega
  have hle : t.n 0 ≤ 65536 := hb.2
  have e1 : IntKind.u8.wrap v = v % 256 := wrap_u8 v
  have e2 : IntKind.u16.wrap v = v % 65536 := wrap_u16' v
  have e3 : IntKind.u64.wrap v = v := wrap_u64 (by omega) (by omega)
  have hw1 : v % 256 ≤ 255 := by omega
  have hw2 : v % 65536 ≤ 65535 := by omega
  have hw3 : 0 ≤ v % 256 := by omega
  have hw4 : 0 ≤ v % 65536 := by omega
  have hw5 : v ≤ 18446744073709551615 := by omega
  simp [hw, hk, hp, hr, hle, hge, h0, h1, h2]
  refine fun x hx hxa => ⟨hl0, fun y hy hya => ⟨t.set 0 (t.n 0) x y, hI.set 0 hb hx hy (fun b hb' => ?_), SubB.refl _ _ _, rfl, SubM.refl _, SubF.refl _ _ _, rfl, SubM.refl _, SubF.refl _ _ _, rfl, SubM.refl _, SubF.refl _ _ _, rfl, SubR.refl0 _, SubF.refl _ _ _, rfl, SubR.refl hl1, SubF.refl _ _ _, rfl, SubR.refl hl2, SubF.refl _ _ _⟩⟩
  rw [hxa b hb', hya b hb']
  exact wr_same3 he (show (0:Int) ≤ b from hb')
theorem wordsC_p0c16 (t : T3) (m0 m1 m2 : Int) (l0 l1 l2 : Nat → Nat) (kd w N pa v : Int) (b0 o c : Nat) (rd : Nat → Bool) (rv : Nat → Nat → Bool) (rf : Nat → Nat → Int) (hn : t.Inv ∧ ((∀ i, i < t.R0.cnt → l0 i = 0) ∧ (∀ i, i < t.R1.cnt → l1 i = 0) ∧ (∀ i, i < t.R2.cnt → l2 i = 0)) ∧ 0 ≤ pa ∧ 0 ≤ v ∧ v ≤ 4294967295) (hs : (kd ≠ 1 ∧ kd ≠ 2 ∧ kd ≠ 3 ∧ kd ≠ 4 ∧ kd ≠ 5) ∧ whoN w = 1) : ∃ anns, fnVC Try.prog [] (callOf Try.prog [] [whoC, byteC, halfC, wordC, setByteC, setHalfC, setWordC, GetC, SetC, rwordC, rsetWordC]) anns Try.f38 ((Try.f38.body).getD .skip) (wordsCA t m0 m1 m2 l0 l1 l2 kd w N pa v b0 o c rd rv rf) (wordsCH t m0 m1 m2 l0 l1 l2 kd w N pa v b0 o c rd rv rf) (wordsCQ t m0 m1 m2 l0 l1 l2 kd w N pa v b0 o c rd rv rf) := by
  refine ⟨⟨[], [], [], [15, 35, 37, 54, 55], [(22, 1), (30, 1), (1000037, 0), (1000062, 0), (1000087, 0), (1000111, 0), (1000128, 0)], []⟩, ?_⟩
  rw [show fnVC Try.prog [] (callOf Try.prog [] [whoC, byteC, halfC, wordC, setByteC, setHalfC, setWordC, GetC, SetC, rwordC, rsetWordC]) ⟨[], [], [], [15, 35, 37, 54, 55], [(22, 1), (30, 1), (1000037, 0), (1000062, 0), (1000087, 0), (1000111, 0), (1000128, 0)], []⟩ Try.f38 ((Try.f38.body).getD .skip) (wordsCA t m0 m1 m2 l0 l1 l2 kd w N pa v b0 o c rd rv rf) (wordsCH t m0 m1 m2 l0 l1 l2 kd w N pa v b0 o c rd rv rf) (wordsCQ t m0 m1 m2 l0 l1 l2 kd w N pa v b0 o c rd rv rf) = ((whoN w = (0 : Int) → False) ∧ (whoN w = (2 : Int) → False) ∧ (whoN w = (1 : Int) → (whoN w = (0 : Int) → False) ∧ (whoN w = (2 : Int) → False) ∧ (whoN w = (1 : Int) → decide (kd = (1 : Int)) = false ∧ decide (kd = (2 : Int)) = false ∧ decide (kd = (3 : Int)) = false ∧ decide (kd = (4 : Int)) = false ∧ decide (kd = (5 : Int)) = false ∧ (PM.Inv t.N1 t.P1 ∧ t.N1 ≤ (65536 : Int) ∧ (0 : Int) ≤ t.N1 ∧ (0 : Int) ≤ pa ∧ (0 : Int) ≤ v ∧ v ≤ (4294967295 : Int)) ∧ ∀ (x : PM), (PM.Inv t.N1 x ∧ ∀ (b : Int), (0 : Int) ≤ b → x.at_ b = wrA t.N1 t.P1.at_ pa (4 : Int) v b) → (RM.Inv t.N1 t.R1 ∧ (∀ (i : Nat), i < t.R1.cnt → l1 i = (0 : Nat)) ∧ t.N1 ≤ (65536 : Int) ∧ (0 : Int) ≤ t.N1 ∧ (0 : Int) ≤ pa ∧ (0 : Int) ≤ v ∧ v ≤ (4294967295 : Int)) ∧ ∀ (x_1 : RM), (RM.Inv t.N1 x_1 ∧ ∀ (b : Int), (0 : Int) ≤ b → x_1.at_ b = wrA t.N1 t.R1.at_ pa (4 : Int) v b) → ∃ (x_2 : T3), x_2.Inv ∧ decide (err t.N1 pa (4 : Int) = err t.N1 pa (4 : Int)) = true ∧ (SubB rd rv rf) ∧ Sub3 t.N0 t.N1 t.N2 t.P0 x t.P2 t.N0 t.N1 t.N2 t.R0 x_1 t.R2 l0 (fun _ => 0) l2 x_2))) from by kernel_rfl]
  obtain ⟨hI, ⟨hl0, hl1, hl2⟩, h0, h1, h2⟩ := hn
  obtain ⟨hk, hw⟩ := hs
  simp only [T3.P0, T3.P1, T3.P2, T3.R0, T3.R1, T3.R2, T3.N0, T3.N1, T3.N2] at *
  have hp := hI.p 1 (by decide)
  have hr := hI.r 1 (by decide)
  have he := hI.e 1 (by decide)
  have hb := hI.n 1 (by decide)
  have hge : 0 ≤ t.n 1 := by omega
  have hle : t.n 1 ≤ 65536 := hb.2
  have e1 : IntKind.u8.wrap v = v % 256 := wrap_u8 v
  have e2 : IntKind.u16.wrap v = v % 65536 := wrap_u16' v
  have e3 : IntKind.u64.wrap v = v := wrap_u64 (by omega) (by omega)
  have hw1 : v % 256 ≤ 255 := by omega
  have hw2 : v % 65536 ≤ 65535 := by omega
  have hw3 : 0 ≤ v % 256 := by omega
  have hw4 : 0 ≤ v % 65536 := by omega
  have hw5 : v ≤ 18446744073709551615 := by omega
  simp [hw, hk, hp, hr, hle, hge, h0, h1, h2]
  refine fun x hx hxa => ⟨hl1, fun y hy hya => ⟨t.set 1 (t.n 1) x y, hI.set 1 hb hx hy (fun b hb' => ?_), SubB.refl _ _ _, rfl, SubM.refl _, SubF.refl _ _ _, rfl, SubM.refl _, SubF.refl _ _ _, rfl, SubM.refl _, SubF.refl _ _ _, rfl, SubR.refl hl0, SubF.refl _ _ _, rfl, SubR.refl0 _, SubF.refl _ _ _, rfl, SubR.refl hl2, SubF.refl _ _ _⟩⟩
  rw [hxa b hb', hya b hb']
  exact wr_same3 he (show (0:Int) ≤ b from hb')
theorem wordsC_p0c17 (t : T3) (m0 m1 m2 : Int) (l0 l1 l2 : Nat → Nat) (kd w N pa v : Int) (b0 o c : Nat) (rd : Nat → Bool) (rv : Nat → Nat → Bool) (rf : Nat → Nat → Int) (hn : t.Inv ∧ ((∀ i, i < t.R0.cnt → l0 i = 0) ∧ (∀ i, i < t.R1.cnt → l1 i = 0) ∧ (∀ i, i < t.R2.cnt → l2 i = 0)) ∧ 0 ≤ pa ∧ 0 ≤ v ∧ v ≤ 4294967295) (hs : (kd ≠ 1 ∧ kd ≠ 2 ∧ kd ≠ 3 ∧ kd ≠ 4 ∧ kd ≠ 5) ∧ whoN w = 2) : ∃ anns, fnVC Try.prog [] (callOf Try.prog [] [whoC, byteC, halfC, wordC, setByteC, setHalfC, setWordC, GetC, SetC, rwordC, rsetWordC]) anns Try.f38 ((Try.f38.body).getD .skip) (wordsCA t m0 m1 m2 l0 l1 l2 kd w N pa v b0 o c rd rv rf) (wordsCH t m0 m1 m2 l0 l1 l2 kd w N pa v b0 o c rd rv rf) (wordsCQ t m0 m1 m2 l0 l1 l2 kd w N pa v b0 o c rd rv rf) := by
  refine ⟨⟨[], [], [], [15, 35, 37, 54, 55], [(22, 2), (30, 2), (1000037, 0), (1000062, 0), (1000087, 0), (1000111, 0), (1000128, 0)], []⟩, ?_⟩
  rw [show fnVC Try.prog [] (callOf Try.prog [] [whoC, byteC, halfC, wordC, setByteC, setHalfC, setWordC, GetC, SetC, rwordC, rsetWordC]) ⟨[], [], [], [15, 35, 37, 54, 55], [(22, 2), (30, 2), (1000037, 0), (1000062, 0), (1000087, 0), (1000111, 0), (1000128, 0)], []⟩ Try.f38 ((Try.f38.body).getD .skip) (wordsCA t m0 m1 m2 l0 l1 l2 kd w N pa v b0 o c rd rv rf) (wordsCH t m0 m1 m2 l0 l1 l2 kd w N pa v b0 o c rd rv rf) (wordsCQ t m0 m1 m2 l0 l1 l2 kd w N pa v b0 o c rd rv rf) = ((whoN w = (0 : Int) → False) ∧ (whoN w = (1 : Int) → False) ∧ (whoN w = (2 : Int) → (whoN w = (0 : Int) → False) ∧ (whoN w = (1 : Int) → False) ∧ (whoN w = (2 : Int) → decide (kd = (1 : Int)) = false ∧ decide (kd = (2 : Int)) = false ∧ decide (kd = (3 : Int)) = false ∧ decide (kd = (4 : Int)) = false ∧ decide (kd = (5 : Int)) = false ∧ (PM.Inv t.N2 t.P2 ∧ t.N2 ≤ (65536 : Int) ∧ (0 : Int) ≤ t.N2 ∧ (0 : Int) ≤ pa ∧ (0 : Int) ≤ v ∧ v ≤ (4294967295 : Int)) ∧ ∀ (x : PM), (PM.Inv t.N2 x ∧ ∀ (b : Int), (0 : Int) ≤ b → x.at_ b = wrA t.N2 t.P2.at_ pa (4 : Int) v b) → (RM.Inv t.N2 t.R2 ∧ (∀ (i : Nat), i < t.R2.cnt → l2 i = (0 : Nat)) ∧ t.N2 ≤ (65536 : Int) ∧ (0 : Int) ≤ t.N2 ∧ (0 : Int) ≤ pa ∧ (0 : Int) ≤ v ∧ v ≤ (4294967295 : Int)) ∧ ∀ (x_1 : RM), (RM.Inv t.N2 x_1 ∧ ∀ (b : Int), (0 : Int) ≤ b → x_1.at_ b = wrA t.N2 t.R2.at_ pa (4 : Int) v b) → ∃ (x_2 : T3), x_2.Inv ∧ decide (err t.N2 pa (4 : Int) = err t.N2 pa (4 : Int)) = true ∧ (SubB rd rv rf) ∧ Sub3 t.N0 t.N1 t.N2 t.P0 t.P1 x t.N0 t.N1 t.N2 t.R0 t.R1 x_1 l0 l1 (fun _ => 0) x_2))) from by kernel_rfl]
  obtain ⟨hI, ⟨hl0, hl1, hl2⟩, h0, h1, h2⟩ := hn
  obtain ⟨hk, hw⟩ := hs
  simp only [T3.P0, T3.P1, T3.P2, T3.R0, T3.R1, T3.R2, T3.N0, T3.N1, T3.N2] at *
  have hp := hI.p 2 (by decide)
  have hr := hI.r 2 (by decide)
  have he := hI.e 2 (by decide)
  have hb := hI.n 2 (by decide)
  have hge : 0 ≤ t.n 2 := by omega
  have hle : t.n 2 ≤ 65536 := hb.2
  have e1 : IntKind.u8.wrap v = v % 256 := wrap_u8 v
  have e2 : IntKind.u16.wrap v = v % 65536 := wrap_u16' v
  have e3 : IntKind.u64.wrap v = v := wrap_u64 (by omega) (by omega)
  have hw1 : v % 256 ≤ 255 := by omega
  have hw2 : v % 65536 ≤ 65535 := by omega
  have hw3 : 0 ≤ v % 256 := by omega
  have hw4 : 0 ≤ v % 65536 := by omega
  have hw5 : v ≤ 18446744073709551615 := by omega
  simp [hw, hk, hp, hr, hle, hge, h0, h1, h2]
  refine fun x hx hxa => ⟨hl2, fun y hy hya => ⟨t.set 2 (t.n 2) x y, hI.set 2 hb hx hy (fun b hb' => ?_), SubB.refl _ _ _, rfl, SubM.refl _, SubF.refl _ _ _, rfl, SubM.refl _, SubF.refl _ _ _, rfl, SubM.refl _, SubF.refl _ _ _, rfl, SubR.refl hl0, SubF.refl _ _ _, rfl, SubR.refl hl1, SubF.refl _ _ _, rfl, SubR.refl0 _, SubF.refl _ _ _⟩⟩
  rw [hxa b hb', hya b hb']
  exact wr_same3 he (show (0:Int) ≤ b from hb')
theorem wordsC_p0 (t : T3) (m0 m1 m2 : Int) (l0 l1 l2 : Nat → Nat) (kd w N pa v : Int) (b0 o c : Nat) (rd : Nat → Bool) (rv : Nat → Nat → Bool) (rf : Nat → Nat → Int) (hn : t.Inv ∧ ((∀ i, i < t.R0.cnt → l0 i = 0) ∧ (∀ i, i < t.R1.cnt → l1 i = 0) ∧ (∀ i, i < t.R2.cnt → l2 i = 0)) ∧ 0 ≤ pa ∧ 0 ≤ v ∧ v ≤ 4294967295) : ∃ anns, fnVC Try.prog [] (callOf Try.prog [] [whoC, byteC, halfC, wordC, setByteC, setHalfC, setWordC, GetC, SetC, rwordC, rsetWordC]) anns Try.f38 ((Try.f38.body).getD .skip) (wordsCA t m0 m1 m2 l0 l1 l2 kd w N pa v b0 o c rd rv rf) (wordsCH t m0 m1 m2 l0 l1 l2 kd w N pa v b0 o c rd rv rf) (wordsCQ t m0 m1 m2 l0 l1 l2 kd w N pa v b0 o c rd rv rf) := by
  have hx : ((kd = 1) ∧ whoN w = 0) ∨ ((kd = 1) ∧ whoN w = 1) ∨ ((kd = 1) ∧ whoN w = 2) ∨ ((kd = 2) ∧ whoN w = 0) ∨ ((kd = 2) ∧ whoN w = 1) ∨ ((kd = 2) ∧ whoN w = 2) ∨ ((kd = 3) ∧ whoN w = 0) ∨ ((kd = 3) ∧ whoN w = 1) ∨ ((kd = 3) ∧ whoN w = 2) ∨ ((kd = 4) ∧ whoN w = 0) ∨ ((kd = 4) ∧ whoN w = 1) ∨ ((kd = 4) ∧ whoN w = 2) ∨ ((kd = 5) ∧ whoN w = 0) ∨ ((kd = 5) ∧ whoN w = 1) ∨ ((kd = 5) ∧ whoN w = 2) ∨ ((kd ≠ 1 ∧ kd ≠ 2 ∧ kd ≠ 3 ∧ kd ≠ 4 ∧ kd ≠ 5) ∧ whoN w = 0) ∨ ((kd ≠ 1 ∧ kd ≠ 2 ∧ kd ≠ 3 ∧ kd ≠ 4 ∧ kd ≠ 5) ∧ whoN w = 1) ∨ ((kd ≠ 1 ∧ kd ≠ 2 ∧ kd ≠ 3 ∧ kd ≠ 4 ∧ kd ≠ 5) ∧ whoN w = 2) := by
    exact six_or kd w
  rcases hx with hs | hs | hs | hs | hs | hs | hs | hs | hs | hs | hs | hs | hs | hs | hs | hs | hs | hs
  · exact wordsC_p0c0 t m0 m1 m2 l0 l1 l2 kd w N pa v b0 o c rd rv rf hn hs
  · exact wordsC_p0c1 t m0 m1 m2 l0 l1 l2 kd w N pa v b0 o c rd rv rf hn hs
  · exact wordsC_p0c2 t m0 m1 m2 l0 l1 l2 kd w N pa v b0 o c rd rv rf hn hs
  · exact wordsC_p0c3 t m0 m1 m2 l0 l1 l2 kd w N pa v b0 o c rd rv rf hn hs
  · exact wordsC_p0c4 t m0 m1 m2 l0 l1 l2 kd w N pa v b0 o c rd rv rf hn hs
  · exact wordsC_p0c5 t m0 m1 m2 l0 l1 l2 kd w N pa v b0 o c rd rv rf hn hs
  · exact wordsC_p0c6 t m0 m1 m2 l0 l1 l2 kd w N pa v b0 o c rd rv rf hn hs
  · exact wordsC_p0c7 t m0 m1 m2 l0 l1 l2 kd w N pa v b0 o c rd rv rf hn hs
  · exact wordsC_p0c8 t m0 m1 m2 l0 l1 l2 kd w N pa v b0 o c rd rv rf hn hs
  · exact wordsC_p0c9 t m0 m1 m2 l0 l1 l2 kd w N pa v b0 o c rd rv rf hn hs
  · exact wordsC_p0c10 t m0 m1 m2 l0 l1 l2 kd w N pa v b0 o c rd rv rf hn hs
  · exact wordsC_p0c11 t m0 m1 m2 l0 l1 l2 kd w N pa v b0 o c rd rv rf hn hs
  · exact wordsC_p0c12 t m0 m1 m2 l0 l1 l2 kd w N pa v b0 o c rd rv rf hn hs
  · exact wordsC_p0c13 t m0 m1 m2 l0 l1 l2 kd w N pa v b0 o c rd rv rf hn hs
  · exact wordsC_p0c14 t m0 m1 m2 l0 l1 l2 kd w N pa v b0 o c rd rv rf hn hs
  · exact wordsC_p0c15 t m0 m1 m2 l0 l1 l2 kd w N pa v b0 o c rd rv rf hn hs
  · exact wordsC_p0c16 t m0 m1 m2 l0 l1 l2 kd w N pa v b0 o c rd rv rf hn hs
  · exact wordsC_p0c17 t m0 m1 m2 l0 l1 l2 kd w N pa v b0 o c rd rv rf hn hs
theorem wordsC_ch (n0 n1 n2 m0 m1 m2 : Int) (ha0 ha1 ha2 : Int → Bool) (ba0 ba1 ba2 : Int → Nat) (la0 la1 la2 : Nat → Nat) (da0 da1 da2 : Nat → Bool) (ga0 ga1 ga2 : Nat → Nat → Int) (ct0 ct1 ct2 : Nat) (no0 no1 no2 : Nat → Int) (bt0 bt1 bt2 l0 l1 l2 sl0 sl1 sl2 lt0 lt1 lt2 : Nat → Nat) (dt0 dt1 dt2 : Nat → Bool) (gt0 gt1 gt2 : Nat → Nat → Int) (kd w N pa v : Int) (b0 o c : Nat) (rd : Nat → Bool) (rv : Nat → Nat → Bool) (rf : Nat → Nat → Int) : ∃ r ∈ wordsCR (T3.of n0 n1 n2 ⟨ha0, ba0, la0, da0, ga0⟩ ⟨ha1, ba1, la1, da1, ga1⟩ ⟨ha2, ba2, la2, da2, ga2⟩ ⟨ct0, no0, bt0, sl0, lt0, dt0, gt0⟩ ⟨ct1, no1, bt1, sl1, lt1, dt1, gt1⟩ ⟨ct2, no2, bt2, sl2, lt2, dt2, gt2⟩) m0 m1 m2 l0 l1 l2 kd w N pa v b0 o c rd rv rf, holdsP r.g ∧ (holdsP r.need → r.r.shaped [.mem true [.cells [.ptr 1 0, .ptr 4 0, .ptr 7 0, .ptr 10 0, .ptr 13 0, .ptr 16 0]], .mem true [.cells [.int .i64 (.tm n0), .map 2]], .mp true .i64 false ha0 [.fptrs 3 ba0], .fam true 80 .u8 la0 da0 ga0, .mem true [.cells [.int .i64 (.tm n1), .map 5]], .mp true .i64 false ha1 [.fptrs 6 ba1], .fam true 80 .u8 la1 da1 ga1, .mem true [.cells [.int .i64 (.tm n2), .map 8]], .mp true .i64 false ha2 [.fptrs 9 ba2], .fam true 80 .u8 la2 da2 ga2, .mem true [.cells [.int .i64 (.tm m0), .vec 11]], .vec true 98 ct0 [.ints .i64 no0, .fsubs 12 bt0 l0 sl0], .fam true 5 .u8 lt0 dt0 gt0, .mem true [.cells [.int .i64 (.tm m1), .vec 14]], .vec true 98 ct1 [.ints .i64 no1, .fsubs 15 bt1 l1 sl1], .fam true 5 .u8 lt1 dt1 gt1, .mem true [.cells [.int .i64 (.tm m2), .vec 17]], .vec true 98 ct2 [.ints .i64 no2, .fsubs 18 bt2 l2 sl2], .fam true 5 .u8 lt2 dt2 gt2, .rof .u8 rd rv rf] ∧ ∃ anns, fnVC Try.prog [] (callOf Try.prog [] [whoC, byteC, halfC, wordC, setByteC, setHalfC, setWordC, GetC, SetC, rwordC, rsetWordC]) anns Try.f38 ((Try.f38.body).getD .skip) [.val (.one (.ptr 0 0)), .val (.agg [.int .i64 (.tm kd), .int .i64 (.tm w), .int .i64 (.tm N), .int .u64 (.tm pa), .int .u32 (.tm v), .fsub 19 b0 o c])] [.mem true [.cells [.ptr 1 0, .ptr 4 0, .ptr 7 0, .ptr 10 0, .ptr 13 0, .ptr 16 0]], .mem true [.cells [.int .i64 (.tm n0), .map 2]], .mp true .i64 false ha0 [.fptrs 3 ba0], .fam true 80 .u8 la0 da0 ga0, .mem true [.cells [.int .i64 (.tm n1), .map 5]], .mp true .i64 false ha1 [.fptrs 6 ba1], .fam true 80 .u8 la1 da1 ga1, .mem true [.cells [.int .i64 (.tm n2), .map 8]], .mp true .i64 false ha2 [.fptrs 9 ba2], .fam true 80 .u8 la2 da2 ga2, .mem true [.cells [.int .i64 (.tm m0), .vec 11]], .vec true 98 ct0 [.ints .i64 no0, .fsubs 12 bt0 l0 sl0], .fam true 5 .u8 lt0 dt0 gt0, .mem true [.cells [.int .i64 (.tm m1), .vec 14]], .vec true 98 ct1 [.ints .i64 no1, .fsubs 15 bt1 l1 sl1], .fam true 5 .u8 lt1 dt1 gt1, .mem true [.cells [.int .i64 (.tm m2), .vec 17]], .vec true 98 ct2 [.ints .i64 no2, .fsubs 18 bt2 l2 sl2], .fam true 5 .u8 lt2 dt2 gt2, .rof .u8 rd rv rf] r) := by
  refine ⟨_, List.mem_cons_self, trivial, fun hn => ?_⟩
  obtain ⟨rfl, rfl, rfl, hn⟩ := (show _ ∧ _ ∧ _ ∧ _ from hn)
  exact ⟨fun x _ => rfl, wordsC_p0 (T3.of m0 m1 m2 ⟨ha0, ba0, la0, da0, ga0⟩ ⟨ha1, ba1, la1, da1, ga1⟩ ⟨ha2, ba2, la2, da2, ga2⟩ ⟨ct0, no0, bt0, sl0, lt0, dt0, gt0⟩ ⟨ct1, no1, bt1, sl1, lt1, dt1, gt1⟩ ⟨ct2, no2, bt2, sl2, lt2, dt2, gt2⟩) _ _ _ _ _ _ _ _ _ _ _ _ _ _ _ _ _ hn⟩
theorem wordsC_ok : wordsC.ok Try.prog [] := by
  refine con_ok (cs := [whoC, byteC, halfC, wordC, setByteC, setHalfC, setWordC, GetC, SetC, rwordC, rsetWordC]) (body := (Try.f38.body).getD .skip) ?_ Try.func38 rfl ?_
  · intro c h
    simp only [List.mem_cons, List.not_mem_nil, or_false] at h
    rcases h with rfl | rfl | rfl | rfl | rfl | rfl | rfl | rfl | rfl | rfl | rfl
    · exact whoC_ok
    · exact byteC_ok
    · exact halfC_ok
    · exact wordC_ok
    · exact setByteC_ok
    · exact setHalfC_ok
    · exact setWordC_ok
    · exact GetC_ok
    · exact SetC_ok
    · exact rwordC_ok
    · exact rsetWordC_ok
  · intro args h l hl
    unfold wordsC at hl
    dsimp only at hl
    split at hl
    · cases hl
      exact wordsC_ch _ _ _ _ _ _ _ _ _ _ _ _ _ _ _ _ _ _ _ _ _ _ _ _ _ _ _ _ _ _ _ _ _ _ _ _ _ _ _ _ _ _ _ _ _ _ _ _ _ _ _ _ _ _ _ _
    · cases hl
end Go.Proofs.Ytipiilkdpmgneaa.con
