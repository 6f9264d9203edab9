/- The heap engine, first part: values, objects, regions whose order is drawn, single operations. It is about no program. -/
import Derived.Laws.StructEq
import Derived.WalkKit
import Derived.Orders
import Derived.Below
import Derived.LoopN
import Derived.MapKept
import Derived.Laws.OwnMore
import Derived.Laws.Pointers
namespace Go.Proofs.YtpdijogpbnaplaaDoorHz
open Go

structure Inv {α : Type} (W : Nat → Nat → Option α) (S : Nat → Prop) (s0 s : Nat → α) : Prop where
  none : ∀ x, (∀ j, S j → W j x = none) → s x = s0 x
  some : ∀ j x v, S j → W j x = some v → (∀ k u, S k → W k x = some u → k ≤ j) → s x = v

def upd {α : Type} (s : Nat → α) (w : Nat → Option α) : Nat → α := fun y => match w y with
  | some v => v
  | none => s y

theorem Inv.start {α : Type} (W : Nat → Nat → Option α) (s0 : Nat → α) : Inv W (fun _ => False) s0 s0 :=
  ⟨fun _ _ => rfl, fun _ _ _ h => h.elim⟩
theorem Inv.step {α : Type} {W : Nat → Nat → Option α} {S : Nat → Prop} {s0 s : Nat → α} (h : Inv W S s0 s) {i : Nat} (hi : ¬ S i)
    (ho : ∀ j x v u, S j → W i x = Option.some v → W j x = Option.some u → j < i) : Inv W (fun j => S j ∨ j = i) s0 (upd s (W i)) := by
  refine ⟨fun x hx => ?_, fun j x v hj hw hm => ?_⟩
  · have h1 := h.none x (fun j hj => hx j (.inl hj))
    unfold upd
    rw [hx i (.inr rfl)]; exact h1
  · rcases hj with hj | rfl
    · cases hwi : W i x with
      | none => unfold upd; rw [hwi]; exact h.some j x v hj hw (fun k u hk hu => hm k u (.inl hk) hu)
      | some u =>
        have h1 := ho j x u v hj hwi hw
        have h2 := hm i u (.inr rfl) hwi
        omega
    · unfold upd; rw [hw]
theorem Inv.congr {α : Type} {W : Nat → Nat → Option α} {S S' : Nat → Prop} {s0 s : Nat → α} (h : Inv W S s0 s) (e : ∀ j, S j ↔ S' j) : Inv W S' s0 s := by
  have : S = S' := funext fun j => propext (e j)
  rw [← this]; exact h
theorem greatest (p : Nat → Prop) (N : Nat) (hN : ∀ j, p j → j < N) (h : ∃ j, p j) : ∃ j, p j ∧ ∀ k, p k → k ≤ j := by
  induction N with
  | zero => obtain ⟨j, hj⟩ := h; exact absurd (hN j hj) (by omega)
  | succ N ih =>
    by_cases hp : p N
    · exact ⟨N, hp, fun k hk => by have := hN k hk; omega⟩
    · exact ih fun j hj => by
        have := hN j hj
        have : j ≠ N := fun e => hp (e ▸ hj)
        omega
theorem Inv.agree {α : Type} {W : Nat → Nat → Option α} {S S' : Nat → Prop} {s0 s t : Nat → α} (h : Inv W S s0 s) (h' : Inv W S' s0 t) (N : Nat) (hN : ∀ j, S j → j < N) (x : Nat)
    (e : ∀ j v, W j x = Option.some v → (S j ↔ S' j)) : s x = t x := by
  by_cases hx : ∃ j, S j ∧ ∃ v, W j x = Option.some v
  · obtain ⟨j, ⟨hj, v, hw⟩, hm⟩ := greatest (fun j => S j ∧ ∃ v, W j x = Option.some v) N (fun j hj => hN j hj.1) hx
    rw [h.some j x v hj hw (fun k u hk hu => hm k ⟨hk, u, hu⟩)]
    rw [h'.some j x v ((e j v hw).1 hj) hw (fun k u hk hu => hm k ⟨(e k u hu).2 hk, u, hu⟩)]
  · have n1 : ∀ j, S j → W j x = Option.none := fun j hj => by
      cases hw : W j x with
      | none => rfl
      | some v => exact absurd ⟨j, hj, v, hw⟩ hx
    have n2 : ∀ j, S' j → W j x = Option.none := fun j hj => by
      cases hw : W j x with
      | none => rfl
      | some v => exact absurd ⟨j, (e j v hw).2 hj, v, hw⟩ hx
    rw [h.none x n1, h'.none x n2]

def direct (o : Oper) : List Nat := o.after.toList.filterMap fun e => if Region.binds .any e then some e.on else none
def predsOf (ops : List Oper) (i : Nat) : List Nat := match ops[i]? with
  | some o => direct o
  | none => []
def beforeGo : List Oper → List Nat → List Nat
  | [], acc => acc
  | o :: os, acc => beforeGo os (acc ++ [(direct o).foldl (fun s j => s ||| (1 <<< j) ||| acc.getD j 0) 0])
def befores (ops : List Oper) : List Nat := beforeGo ops []
def earlier (ops : List Oper) : Bool := (List.range ops.length).all fun i => (predsOf ops i).all fun j => Nat.blt j i

def ClosedS (ops : List Oper) (S : Nat → Prop) : Prop := ∀ i, S i → ∀ j ∈ predsOf ops i, S j

theorem fold_bits (acc : List Nat) (i : Nat) : ∀ (l : List Nat) (s : Nat), (l.foldl (fun s j => s ||| (1 <<< j) ||| acc.getD j 0) s).testBit i = true →
    s.testBit i = true ∨ ∃ j ∈ l, j = i ∨ (acc.getD j 0).testBit i = true
  | [], s, h => .inl h
  | j :: l, s, h => by
    rcases fold_bits acc i l _ h with h1 | ⟨k, hk, h2⟩
    · rw [Nat.testBit_or, Nat.testBit_or, Bool.or_eq_true, Bool.or_eq_true] at h1
      rcases h1 with (h1 | h1) | h1
      · exact .inl h1
      · refine .inr ⟨j, by simp, .inl ?_⟩
        rw [Nat.one_shiftLeft] at h1
        rw [Nat.testBit_two_pow] at h1
        simpa using h1
      · exact .inr ⟨j, by simp, .inr h1⟩
    · exact .inr ⟨k, by simp [hk], h2⟩

def BitsOk (ops : List Oper) (acc : List Nat) : Prop := ∀ i b, acc[i]? = some b → ∀ k, b.testBit k = true → ∀ S, ClosedS ops S → (∀ j ∈ predsOf ops i, S j) → S k
theorem beforeGo_ok {ops : List Oper} : ∀ (os : List Oper) (acc : List Nat), (∀ j, os[j]? = ops[acc.length + j]?) → BitsOk ops acc → BitsOk ops (beforeGo os acc)
  | [], acc, _, h => h
  | o :: os, acc, he, h => by
    unfold beforeGo
    refine beforeGo_ok os _ (fun j => ?_) ?_
    · have := he (j + 1)
      simp only [List.getElem?_cons_succ] at this
      rw [this]; congr 1; simp; omega
    · intro i b hb k hk S hc hp
      rw [List.getElem?_append] at hb
      split at hb
      · exact h i b hb k hk S hc hp
      · rename_i hge
        have hi : i = acc.length := by
          rcases Nat.lt_or_ge (i - acc.length) 1 with h' | h'
          · omega
          · rw [List.getElem?_eq_none (by simpa using h')] at hb; cases hb
        subst hi
        simp only [Nat.sub_self, List.getElem?_cons_zero, Option.some.injEq] at hb
        subst hb
        have hd : predsOf ops acc.length = direct o := by
          unfold predsOf
          have := he 0
          simp only [List.getElem?_cons_zero, Nat.add_zero] at this
          rw [← this]
        rw [hd] at hp
        rcases fold_bits acc k _ _ hk with h0 | ⟨j, hj, rfl | hj2⟩
        · rw [Nat.zero_testBit] at h0; cases h0
        · exact hp j hj
        · cases hacc : acc[j]? with
          | none => rw [List.getD_eq_getElem?_getD, hacc] at hj2; simp at hj2
          | some b =>
            rw [List.getD_eq_getElem?_getD, hacc] at hj2
            exact h j b hacc k (by simpa using hj2) S hc (hc j (hp j hj))
theorem befores_ok (ops : List Oper) : BitsOk ops (befores ops) :=
  beforeGo_ok ops [] (fun j => by simp) (fun i b hb => by simp at hb)

def waits (bs : List Nat) (j i : Nat) : Bool := (bs.getD j 0).testBit i
theorem waits_ok {ops : List Oper} {i j : Nat} (h : waits (befores ops) j i = true) {S : Nat → Prop} (hc : ClosedS ops S) (hp : ∀ k ∈ predsOf ops j, S k) : S i := by
  unfold waits at h
  rw [List.getD_eq_getElem?_getD] at h
  cases hb : (befores ops)[j]? with
  | none => rw [hb] at h; simp at h
  | some b => rw [hb] at h; exact befores_ok ops j b hb i (by simpa using h) S hc hp

structure SS (α β : Type) where
  tmp : Nat → α
  blk : Nat → β
structure Wr (α β : Type) where
  t : List (Nat × α)
  b : List (Nat × β)
  rt : List Nat
  rb : List Nat
def look {α : Type} : List (Nat × α) → Nat → Option α
  | [], _ => none
  | p :: r, x => if Nat.beq p.1 x then some p.2 else look r x
theorem look_mem {α : Type} : ∀ {l : List (Nat × α)} {x : Nat} {v : α}, look l x = some v → ∃ p ∈ l, p.1 = x
  | p :: r, x, v, h => by
    unfold look at h
    split at h
    · rename_i e; exact ⟨p, List.mem_cons_self, Nat.eq_of_beq_eq_true e⟩
    · obtain ⟨q, hq, he⟩ := look_mem h; exact ⟨q, List.mem_cons_of_mem _ hq, he⟩
def SS.app {α β : Type} (s : SS α β) (w : Wr α β) : SS α β := ⟨upd s.tmp (look w.t), upd s.blk (look w.b)⟩

def wrIn {α : Type} (w : List (Nat × α)) (l : List Nat) : Bool := w.any fun p => l.any (Nat.beq p.1)
def wrBoth {α : Type} (v w : List (Nat × α)) : Bool := v.any fun p => w.any fun q => Nat.beq p.1 q.1
theorem wrIn_of {α : Type} {w : List (Nat × α)} {l : List Nat} {x : Nat} {v : α} (h : look w x = some v) (hx : x ∈ l) : wrIn w l = true := by
  obtain ⟨p, hp, rfl⟩ := look_mem h
  exact List.any_eq_true.2 ⟨p, hp, List.any_eq_true.2 ⟨_, hx, Nat.beq_refl _⟩⟩
theorem wrBoth_of {α : Type} {w v : List (Nat × α)} {x : Nat} {a b : α} (h : look w x = some a) (h' : look v x = some b) : wrBoth w v = true := by
  obtain ⟨p, hp, rfl⟩ := look_mem h
  obtain ⟨q, hq, e⟩ := look_mem h'
  exact List.any_eq_true.2 ⟨p, hp, List.any_eq_true.2 ⟨q, hq, by rw [e]; exact Nat.beq_refl _⟩⟩
def conf {α β : Type} (v w : Wr α β) : Bool :=
  wrIn v.t w.rt || wrIn w.t v.rt || wrBoth v.t w.t || wrIn v.b w.rb || wrIn w.b v.rb || wrBoth v.b w.b
def orderedFrom {α β : Type} (bs : List Nat) (i : Nat) (v : Wr α β) : Nat → List (Wr α β) → Bool
  | _, [] => true
  | j, w :: ws => (!conf v w || waits bs j i) && orderedFrom bs i v (j + 1) ws
def ordered {α β : Type} (bs : List Nat) : Nat → List (Wr α β) → Bool
  | _, [] => true
  | i, v :: ws => orderedFrom bs i v (i + 1) ws && ordered bs (i + 1) ws

theorem orderedFrom_ok {α β : Type} {bs : List Nat} {i : Nat} {v : Wr α β} : ∀ {ws : List (Wr α β)} {j : Nat}, orderedFrom bs i v j ws = true → ∀ k w, ws[k]? = some w → conf v w = true → waits bs (j + k) i = true
  | [], _, _, k, w, hw, _ => by simp at hw
  | x :: ws, j, h, 0, w, hw, hc => by
    simp only [orderedFrom, Bool.and_eq_true] at h
    simp at hw; subst hw
    rw [hc] at h; simpa using h.1
  | x :: ws, j, h, k + 1, w, hw, hc => by
    simp only [orderedFrom, Bool.and_eq_true] at h
    have := orderedFrom_ok h.2 k w (by simpa using hw) hc
    rw [show j + (k + 1) = j + 1 + k by omega]; exact this
theorem ordered_ok {α β : Type} {bs : List Nat} : ∀ {ws : List (Wr α β)} {i : Nat}, ordered bs i ws = true → ∀ k l v w, k < l → ws[k]? = some v → ws[l]? = some w → conf v w = true → waits bs (i + l) (i + k) = true
  | [], _, _, k, l, v, w, _, hv, _, _ => by simp at hv
  | x :: ws, i, h, 0, l + 1, v, w, _, hv, hw, hc => by
    simp only [ordered, Bool.and_eq_true] at h
    simp at hv; subst hv
    have := orderedFrom_ok h.1 l w (by simpa using hw) hc
    rw [show i + (l + 1) = i + 1 + l by omega]; exact this
  | x :: ws, i, h, k + 1, l + 1, v, w, hkl, hv, hw, hc => by
    simp only [ordered, Bool.and_eq_true] at h
    have := ordered_ok h.2 k l v w (by omega) (by simpa using hv) (by simpa using hw) hc
    rw [show i + (l + 1) = i + 1 + l by omega, show i + (k + 1) = i + 1 + k by omega]; exact this
  | _ :: _, _, _, _ + 1, 0, _, _, hkl, _, _, _ => by omega
  | _ :: _, _, _, 0, 0, _, _, hkl, _, _, _ => by omega

def textSt {α β : Type} (s0 : SS α β) (ws : List (Wr α β)) : Nat → SS α β
  | 0 => s0
  | i + 1 => match ws[i]? with
    | some w => (textSt s0 ws i).app w
    | none => textSt s0 ws i
def Agree {α β : Type} (w : Wr α β) (s t : SS α β) : Prop := (∀ x ∈ w.rt, s.tmp x = t.tmp x) ∧ (∀ x ∈ w.rb, s.blk x = t.blk x)

def Wt {α β : Type} (ws : List (Wr α β)) (i : Nat) : Nat → Option α := match ws[i]? with | some w => look w.t | none => fun _ => none
def Wb {α β : Type} (ws : List (Wr α β)) (i : Nat) : Nat → Option β := match ws[i]? with | some w => look w.b | none => fun _ => none

theorem text_inv {α β : Type} (s0 : SS α β) (ws : List (Wr α β)) : ∀ i, Inv (Wt ws) (· < i) s0.tmp (textSt s0 ws i).tmp ∧ Inv (Wb ws) (· < i) s0.blk (textSt s0 ws i).blk
  | 0 => ⟨(Inv.start _ _).congr (fun j => ⟨fun h => h.elim, fun h => absurd h (Nat.not_lt_zero j)⟩), (Inv.start _ _).congr (fun j => ⟨fun h => h.elim, fun h => absurd h (Nat.not_lt_zero j)⟩)⟩
  | i + 1 => by
    obtain ⟨h1, h2⟩ := text_inv s0 ws i
    have e1 := (h1.step (i := i) (by omega) (fun j _ _ _ hj _ _ => hj)).congr (S' := (· < i + 1)) (fun j => by omega)
    have e2 := (h2.step (i := i) (by omega) (fun j _ _ _ hj _ _ => hj)).congr (S' := (· < i + 1)) (fun j => by omega)
    unfold textSt
    cases hw : ws[i]? with
    | none =>
      have t1 : Wt ws i = fun _ => none := by simp [Wt, hw]
      have t2 : Wb ws i = fun _ => none := by simp [Wb, hw]
      rw [t1] at e1; rw [t2] at e2
      exact ⟨e1, e2⟩
    | some w =>
      have t1 : Wt ws i = look w.t := by simp [Wt, hw]
      have t2 : Wb ws i = look w.b := by simp [Wb, hw]
      rw [t1] at e1; rw [t2] at e2
      exact ⟨e1, e2⟩

section
variable {α β : Type} {P : Program} {ops : Array Oper} {Q : Exit → Act → World → Prop} {R : SS α β → Act → World → Prop} {s0 : SS α β} {ws : List (Wr α β)}

theorem wrBoth_symm {α : Type} (v w : List (Nat × α)) : wrBoth v w = wrBoth w v := by
  have key : ∀ v w : List (Nat × α), wrBoth v w = true → wrBoth w v = true := by
    intro v w h
    obtain ⟨p, hp, h⟩ := List.any_eq_true.1 h
    obtain ⟨q, hq, h⟩ := List.any_eq_true.1 h
    exact List.any_eq_true.2 ⟨q, hq, List.any_eq_true.2 ⟨p, hp, by rw [Nat.eq_of_beq_eq_true h]; exact Nat.beq_refl _⟩⟩
  cases h1 : wrBoth v w <;> cases h2 : wrBoth w v
  · rfl
  · rw [key _ _ h2] at h1; cases h1
  · rw [key _ _ h1] at h2; cases h2
  · rfl
theorem conf_symm (v w : Wr α β) : conf v w = conf w v := by
  unfold conf
  rw [wrBoth_symm v.t w.t, wrBoth_symm v.b w.b]
  cases wrIn v.t w.rt <;> cases wrIn w.t v.rt <;> cases wrIn v.b w.rb <;> cases wrIn w.b v.rb <;> simp

theorem Inv.swap {α : Type} {W W' : Nat → Nat → Option α} {S : Nat → Prop} {s0 s : Nat → α} (h : Inv W S s0 s) (e : ∀ j, S j → ∀ x, W j x = W' j x) : Inv W' S s0 s :=
  ⟨fun x hx => h.none x (fun j hj => by rw [e j hj]; exact hx j hj), fun j x v hj hw hm => h.some j x v hj (by rw [e j hj]; exact hw) (fun k u hk hu => hm k u hk (by rw [← e k hk]; exact hu))⟩
def fromG {α β : Type} (bs : List Nat) (i : Nat) (v : Wr α β) : List Nat → List (Wr α β) → Bool
  | j :: js, w :: ws => (!conf v w || waits bs j i) && fromG bs i v js ws
  | _, _ => true
def orderedG {α β : Type} (bs : List Nat) : List Nat → List (Wr α β) → Bool
  | i :: is, v :: ws => fromG bs i v is ws && orderedG bs is ws
  | _, _ => true
theorem fromG_ok {α β : Type} {bs : List Nat} {i : Nat} {v : Wr α β} : ∀ {js : List Nat} {ws : List (Wr α β)}, fromG bs i v js ws = true → ∀ (k j : Nat) (w : Wr α β), js[k]? = some j → ws[k]? = some w → conf v w = true → waits bs j i = true
  | j0 :: js, w0 :: ws, h, 0, j, w, hj, hw, hc => by
    simp only [fromG, Bool.and_eq_true] at h
    simp at hj hw; subst hj; subst hw
    rw [hc] at h; simpa using h.1
  | j0 :: js, w0 :: ws, h, k + 1, j, w, hj, hw, hc => by
    simp only [fromG, Bool.and_eq_true] at h
    exact fromG_ok h.2 k j w (by simpa using hj) (by simpa using hw) hc
  | [], _, _, _, _, _, hj, _, _ => by simp at hj
  | _ :: _, [], _, _, _, _, _, hw, _ => by simp at hw
theorem orderedG_ok {α β : Type} {bs : List Nat} : ∀ {is : List Nat} {ws : List (Wr α β)}, orderedG bs is ws = true → ∀ (k l i j : Nat) (v w : Wr α β), k < l → is[k]? = some i → is[l]? = some j → ws[k]? = some v → ws[l]? = some w → conf v w = true → waits bs j i = true
  | i0 :: is, v0 :: ws, h, 0, l + 1, i, j, v, w, _, hi, hj, hv, hw, hc => by
    simp only [orderedG, Bool.and_eq_true] at h
    simp at hi hv; subst hi; subst hv
    exact fromG_ok h.1 l j w (by simpa using hj) (by simpa using hw) hc
  | i0 :: is, v0 :: ws, h, k + 1, l + 1, i, j, v, w, hkl, hi, hj, hv, hw, hc => by
    simp only [orderedG, Bool.and_eq_true] at h
    exact orderedG_ok h.2 k l i j v w (by omega) (by simpa using hi) (by simpa using hj) (by simpa using hv) (by simpa using hw) hc
  | _ :: _, _ :: _, _, _ + 1, 0, _, _, _, _, hkl, _, _, _, _, _ => by omega
  | _ :: _, _ :: _, _, 0, 0, _, _, _, _, hkl, _, _, _, _, _ => by omega
  | [], _, _, _, _, _, _, _, _, _, hi, _, _, _, _ => by simp at hi
  | _ :: _, [], _, _, _, _, _, _, _, _, _, _, hv, _, _ => by simp at hv

theorem any_order {pi : List Nat} {WS : List (Wr α β) → Prop} {rel : Nat → Bool} (hpl : pi.length = ops.size) (hpn : ∀ p q x : Nat, pi[p]? = some x → pi[q]? = some x → p = q) (hps : ∀ x : Nat, x < ops.size → ∃ p : Nat, pi[p]? = some x) (hpb : ∀ p x : Nat, pi[p]? = some x → x < ops.size)
    (he : earlier ops.toList = true) (hlen : ∀ ws, WS ws → ws.length ≤ ops.size ∧ (ws.length < ops.size → rel ws.length = true)) (ho : ∀ ws, WS ws → orderedG (befores ops.toList) pi ws = true)
    (hrel : ∀ p q i j : Nat, rel p = true → p < q → pi[p]? = some i → pi[q]? = some j → waits (befores ops.toList) j i = true)
    (hstep : ∀ ws, WS ws → ∀ (p i : Nat) (w : Wr α β), rel p = false → pi[p]? = some i → ws[p]? = some w → ∀ s, Agree w s (textSt s0 ws p) → ∀ a wd, R s a wd → wpOp P ops Q i (fun a' w' => R (s.app w) a' w') a wd)
    (hopen : ∀ ws, WS ws → ∀ i : Nat, pi[ws.length]? = some i → ∃ w0 : Wr α β, (∀ (q j : Nat) (v : Wr α β), pi[q]? = some j → ws[q]? = some v → conf v w0 = true → waits (befores ops.toList) i j = true) ∧
      ∀ s, Agree w0 s (textSt s0 ws ws.length) → ∀ a wd, R s a wd → wpOp P ops Q i (fun a' w' => ∃ ws' v, WS ws' ∧ (∀ q, q < ws.length → ws'[q]? = ws[q]?) ∧ ws'[ws.length]? = some v ∧ (∀ q, ws.length < q → q < ws'.length → rel q = false) ∧ R (s.app v) a' w') a wd)
    (hend : ∀ ws, WS ws → ws.length = ops.size → ∀ a wd, R (textSt s0 ws ops.size) a wd → Q .normal a wd) :
    ∀ (fuel : Nat) (listed : Array Bool) (s : SS α β) (ws : List (Wr α β)) (a : Act) (wd : World), WS ws → listed.size = ops.size → (List.range ops.size).countP (fun i => !listed.getD i true) ≤ fuel →
      ClosedS ops.toList (fun j => j < ops.size ∧ listed.getD j true = true) → (∀ p i : Nat, pi[p]? = some i → listed.getD i true = true → p < ws.length) → (∀ p i : Nat, pi[p]? = some i → p < ws.length → rel p = true → listed.getD i true = true) →
      Inv (Wt ws) (fun p : Nat => ∃ i : Nat, pi[p]? = some i ∧ listed.getD i true = true) s0.tmp s.tmp → Inv (Wb ws) (fun p : Nat => ∃ i : Nat, pi[p]? = some i ∧ listed.getD i true = true) s0.blk s.blk →
      R s a wd → wpAny P .any ops Q fuel listed a wd := by
  have hpred : ∀ i o, ops[i]? = some o → predsOf ops.toList i = direct o := by
    intro i o h; unfold predsOf; rw [Array.getElem?_toList, h]
  have hearl : ∀ i, i < ops.size → ∀ j ∈ predsOf ops.toList i, j < i := by
    intro i hi j hj
    unfold earlier at he
    rw [List.all_eq_true] at he
    have := he i (by simpa using hi)
    rw [List.all_eq_true] at this
    have := this j hj
    simpa [Nat.blt_eq] using this
  -- where nothing may come next, all have come
  have hall : ∀ (listed : Array Bool), listed.size = ops.size → Region.ready .any ops listed = [] → ∀ i, i < ops.size → listed.getD i true = true := by
    intro listed hsz hr i
    induction i using Nat.strongRecOn with
    | _ i ih =>
      intro hi
      cases hl : listed.getD i true with
      | true => rfl
      | false =>
        exfalso
        have ho' : ops[i]? = some ops[i] := by simp [hi]
        have : i ∈ Region.ready .any ops listed := by
          rw [mem_ready]
          refine ⟨hl, _, ho', fun e hee hb => ?_⟩
          have hm : e.on ∈ predsOf ops.toList i := by
            rw [hpred _ _ ho']; unfold direct
            exact List.mem_filterMap.2 ⟨e, by simpa using hee, by simp [hb]⟩
          have hlt := hearl i hi _ hm
          have := ih _ hlt (by omega)
          have hs : e.on < listed.size := by omega
          simp [hs] at this ⊢; exact this
        rw [hr] at this; cases this
  have hbound : ∀ (listed : Array Bool) (p : Nat), (∃ i : Nat, pi[p]? = some i ∧ listed.getD i true = true) → p < ops.size := fun _ p h => by
    obtain ⟨i, h1, _⟩ := h
    have := (List.getElem?_eq_some_iff.1 h1).1
    omega
  have hfin : ∀ (listed : Array Bool) (s : SS α β) (ws : List (Wr α β)) (a : Act) (wd : World), WS ws → listed.size = ops.size → Region.ready .any ops listed = [] → (∀ p i : Nat, pi[p]? = some i → listed.getD i true = true → p < ws.length) →
      Inv (Wt ws) (fun p : Nat => ∃ i : Nat, pi[p]? = some i ∧ listed.getD i true = true) s0.tmp s.tmp → Inv (Wb ws) (fun p : Nat => ∃ i : Nat, pi[p]? = some i ∧ listed.getD i true = true) s0.blk s.blk → R s a wd → Q .normal a wd := by
    intro listed s ws a wd hW hsz hr hcov h1 h2 hR
    have ha := hall listed hsz hr
    have hfull : ws.length = ops.size := by
      rcases Nat.lt_or_ge ws.length ops.size with h' | h'
      · exfalso
        have hx := List.getElem?_eq_getElem (l := pi) (i := ws.length) (by omega)
        have := hcov _ _ hx (ha _ (hpb _ _ hx))
        omega
      · have := (hlen ws hW).1; omega
    refine hend ws hW hfull a wd ?_
    obtain ⟨t1, t2⟩ := text_inv s0 ws ops.size
    have hiff : ∀ p : Nat, (∃ i : Nat, pi[p]? = some i ∧ listed.getD i true = true) ↔ p < ops.size := fun p => ⟨hbound listed p, fun hp => ⟨_, List.getElem?_eq_getElem (by omega), ha _ (hpb p _ (List.getElem?_eq_getElem (by omega)))⟩⟩
    have e1 : s.tmp = (textSt s0 ws ops.size).tmp := funext fun x => h1.agree t1 ops.size (hbound listed) x (fun j v _ => hiff j)
    have e2 : s.blk = (textSt s0 ws ops.size).blk := funext fun x => h2.agree t2 ops.size (hbound listed) x (fun j v _ => hiff j)
    have : s = textSt s0 ws ops.size := by
      cases s; cases hT : textSt s0 ws ops.size
      rw [hT] at e1 e2
      simp only at e1 e2
      rw [e1, e2]
    rw [← this]; exact hR
  intro fuel
  induction fuel with
  | zero =>
    intro listed s ws a wd hW hsz hcount hc hcov hrl h1 h2 hR
    have hr : Region.ready .any ops listed = [] := by
      rw [List.eq_nil_iff_forall_not_mem]
      intro i hi
      rw [mem_ready] at hi
      obtain ⟨hl, o, ho', _⟩ := hi
      have hlt : i < ops.size := (Array.getElem?_eq_some_iff.1 ho').1
      have : 0 < (List.range ops.size).countP (fun i => !listed.getD i true) := List.countP_pos_iff.2 ⟨i, by simpa using hlt, by rw [hl]; rfl⟩
      omega
    exact ⟨hr, hfin listed s ws a wd hW hsz hr hcov h1 h2 hR⟩
  | succ fuel ih =>
    intro listed s ws a wd hW hsz hcount hc hcov hrl h1 h2 hR
    refine ⟨fun hr => hfin listed s ws a wd hW hsz hr hcov h1 h2 hR, fun i hi => ?_⟩
    rw [mem_ready] at hi
    obtain ⟨hl, o, ho', hdeps⟩ := hi
    have hlt : i < ops.size := (Array.getElem?_eq_some_iff.1 ho').1
    obtain ⟨p, hp⟩ := hps i hlt
    have hpl' : p < pi.length := (List.getElem?_eq_some_iff.1 hp).1
    have hpre : ∀ j ∈ predsOf ops.toList i, j < ops.size ∧ listed.getD j true = true := by
      intro j hj
      have hji := hearl i hlt j hj
      rw [hpred _ _ ho'] at hj
      unfold direct at hj
      obtain ⟨e, he1, he2⟩ := List.mem_filterMap.1 hj
      split at he2
      · rename_i hb
        cases he2
        have := hdeps e (by simpa using he1) hb
        have hs : e.on < listed.size := by omega
        refine ⟨by omega, ?_⟩
        simp [hs] at this ⊢; exact this
      · cases he2
    have hnot : ¬ ∃ i : Nat, pi[p]? = some i ∧ listed.getD i true = true := by
      rintro ⟨j, h3, h4⟩
      rw [hp] at h3; cases h3
      rw [hl] at h4; cases h4
    have hset : ∀ q : Nat, ((∃ j : Nat, pi[q]? = some j ∧ (listed.setIfInBounds i true).getD j true = true) ↔ ((∃ j : Nat, pi[q]? = some j ∧ listed.getD j true = true) ∨ q = p)) := by
      intro q
      constructor
      · rintro ⟨j, hj, hjl⟩
        by_cases hji : j = i
        · subst hji; exact .inr (hpn q p j hj hp)
        · rw [getD_set_ne true (Ne.symm hji)] at hjl
          exact .inl ⟨j, hj, hjl⟩
      · rintro (⟨j, hj, hjl⟩ | rfl)
        · refine ⟨j, hj, ?_⟩
          by_cases hji : j = i
          · subst hji
            have hs : j < listed.size := by omega
            simp [hs]
          · rw [getD_set_ne true (Ne.symm hji)]; exact hjl
        · have hs : i < listed.size := by omega
          exact ⟨i, hp, by simp [hs]⟩
    have hcnt : (List.range ops.size).countP (fun j => !(listed.setIfInBounds i true).getD j true) ≤ fuel := by
      have hcnt : (List.range ops.size).countP (fun j => !(listed.setIfInBounds i true).getD j true) < (List.range ops.size).countP (fun j => !listed.getD j true) := by
        have key : ∀ (l : List Nat), i ∈ l → l.countP (fun j => !(listed.setIfInBounds i true).getD j true) < l.countP (fun j => !listed.getD j true) := by
          intro l
          have hle : ∀ (l : List Nat), l.countP (fun j => !(listed.setIfInBounds i true).getD j true) ≤ l.countP (fun j => !listed.getD j true) := by
            intro l
            refine List.countP_mono_left fun j _ hj => ?_
            by_cases hji : j = i
            · subst hji
              have hs : j < listed.size := by omega
              simp [hs] at hj
            · rw [getD_set_ne true (Ne.symm hji)] at hj; exact hj
          induction l with
          | nil => intro h; cases h
          | cons x l ihl =>
            intro hm
            rw [List.countP_cons, List.countP_cons]
            by_cases hx : x = i
            · subst hx
              have hs : x < listed.size := by omega
              have e1 : (!(listed.setIfInBounds x true).getD x true) = false := by simp [hs]
              have e2 : (!listed.getD x true) = true := by rw [hl]; rfl
              rw [e1, e2]
              have := hle l
              simp only [Bool.false_eq_true, if_false, if_true]; omega
            · have hm' : i ∈ l := by
                rcases List.mem_cons.1 hm with h | h
                · exact absurd h.symm hx
                · exact h
              have := ihl hm'
              rw [getD_set_ne true (Ne.symm hx)]
              omega
        exact key _ (by simpa using hlt)
      omega
    have hclosed : ClosedS ops.toList (fun j => j < ops.size ∧ (listed.setIfInBounds i true).getD j true = true) := by
      intro j hj k hk
      have hidx : ∀ m, ((m < ops.size ∧ (listed.setIfInBounds i true).getD m true = true) ↔ ((m < ops.size ∧ listed.getD m true = true) ∨ m = i)) := by
        intro m
        by_cases hji : m = i
        · subst hji
          have hs : m < listed.size := by omega
          simp [hs, hlt]
        · rw [getD_set_ne true (Ne.symm hji)]
          exact ⟨fun h => .inl h, fun h => h.resolve_right hji⟩
      rw [hidx] at hj ⊢
      rcases hj with hj | rfl
      · exact .inl (hc j hj k hk)
      · exact .inl (hpre k hk)
    have hcovd : ∀ q : Nat, (∃ j : Nat, pi[q]? = some j ∧ listed.getD j true = true) → q < ws.length := fun q hq => by
      obtain ⟨j, hj, hjl⟩ := hq
      exact hcov q j hj hjl
    rcases Nat.lt_trichotomy p ws.length with hpw | hpw | hpw
    · -- one that is known
      obtain ⟨w, hw⟩ : ∃ w, ws[p]? = some w := ⟨_, List.getElem?_eq_getElem hpw⟩
      -- what conflicts has come just if it stands ahead
      have hconf : ∀ q v, ws[q]? = some v → q ≠ p → conf w v = true → ((∃ j : Nat, pi[q]? = some j ∧ listed.getD j true = true) ↔ q < p) := by
        intro q v hv hqp hcf
        have hql : q < pi.length := by
          have := (List.getElem?_eq_some_iff.1 hv).1
          have := (hlen ws hW).1
          omega
        constructor
        · rintro ⟨j, hj, hjl⟩
          rcases Nat.lt_or_ge q p with h' | h'
          · exact h'
          · exfalso
            have := orderedG_ok (ho ws hW) p q i j w v (by omega) hp hj hw hv hcf
            have := waits_ok this hc (hc j ⟨hpb q j hj, hjl⟩)
            rw [hl] at this
            exact absurd this.2 (by decide)
        · intro hj
          have hjq := List.getElem?_eq_getElem hql
          have := orderedG_ok (ho ws hW) q p _ i v w hj hjq hp hv hw (by rw [conf_symm]; exact hcf)
          exact ⟨_, hjq, (waits_ok this hc hpre).2⟩
      obtain ⟨t1, t2⟩ := text_inv s0 ws p
      have hagree : Agree w s (textSt s0 ws p) := by
        refine ⟨fun x hx => h1.agree t1 ops.size (hbound listed) x fun j v hwj => ?_, fun x hx => h2.agree t2 ops.size (hbound listed) x fun j v hwj => ?_⟩
        · by_cases hji : j = p
          · subst hji
            exact ⟨fun h => absurd h hnot, fun h => absurd h (Nat.lt_irrefl _)⟩
          · unfold Wt at hwj
            cases hv : ws[j]? with
            | none => rw [hv] at hwj; cases hwj
            | some u =>
              rw [hv] at hwj
              refine hconf j u hv hji ?_
              have : wrIn u.t w.rt = true := wrIn_of hwj hx
              simp [conf, this]
        · by_cases hji : j = p
          · subst hji
            exact ⟨fun h => absurd h hnot, fun h => absurd h (Nat.lt_irrefl _)⟩
          · unfold Wb at hwj
            cases hv : ws[j]? with
            | none => rw [hv] at hwj; cases hwj
            | some u =>
              rw [hv] at hwj
              refine hconf j u hv hji ?_
              have : wrIn u.b w.rb = true := wrIn_of hwj hx
              simp [conf, this]
      refine wpOp_mono (fun a' w' hR' => ?_) (hstep ws hW p i w (by
        cases hrp : rel p with
        | false => rfl
        | true =>
          have := hrl p i hp hpw hrp
          rw [hl] at this; cases this) hp hw s hagree a wd hR)
      have hWt : Wt ws p = look w.t := by simp [Wt, hw]
      have hWb : Wb ws p = look w.b := by simp [Wb, hw]
      refine ih (listed.setIfInBounds i true) (s.app w) ws a' w' hW (by simpa using hsz) hcnt hclosed (fun q j hj hjl => ?_) (fun q j hj hql hqr => ?_) ?_ ?_ hR'
      · rcases (hset q).1 ⟨j, hj, hjl⟩ with h | h
        · exact hcovd q h
        · omega
      · by_cases hji : j = i
        · subst hji
          have hs : j < listed.size := by omega
          simp [hs]
        · rw [getD_set_ne true (Ne.symm hji)]; exact hrl q j hj hql hqr
      · have := h1.step (i := p) hnot (fun j x v' u hj hwi hwj => by
          have hji : j ≠ p := fun e => hnot (e ▸ hj)
          unfold Wt at hwj
          cases hv' : ws[j]? with
          | none => rw [hv'] at hwj; cases hwj
          | some q =>
            rw [hv'] at hwj
            refine (hconf j q hv' hji ?_).1 hj
            rw [hWt] at hwi
            have : wrBoth w.t q.t = true := wrBoth_of hwi hwj
            simp [conf, this])
        rw [hWt] at this
        exact this.congr (fun j => (hset j).symm)
      · have := h2.step (i := p) hnot (fun j x v' u hj hwi hwj => by
          have hji : j ≠ p := fun e => hnot (e ▸ hj)
          unfold Wb at hwj
          cases hv' : ws[j]? with
          | none => rw [hv'] at hwj; cases hwj
          | some q =>
            rw [hv'] at hwj
            refine (hconf j q hv' hji ?_).1 hj
            rw [hWb] at hwi
            have : wrBoth w.b q.b = true := wrBoth_of hwi hwj
            simp [conf, this])
        rw [hWb] at this
        exact this.congr (fun j => (hset j).symm)
    · -- the one whose outcome is open
      subst hpw
      obtain ⟨w0, c0, hop⟩ := hopen ws hW i hp
      obtain ⟨t1, t2⟩ := text_inv s0 ws ws.length
      have hiff : ∀ q v, ws[q]? = some v → conf v w0 = true → ((∃ j : Nat, pi[q]? = some j ∧ listed.getD j true = true) ↔ q < ws.length) := by
        intro q v hv hcf
        refine ⟨hcovd q, fun hq => ?_⟩
        have hjq := List.getElem?_eq_getElem (l := pi) (i := q) (by omega)
        exact ⟨_, hjq, (waits_ok (c0 q _ v hjq hv hcf) hc hpre).2⟩
      have hagree : Agree w0 s (textSt s0 ws ws.length) := by
        refine ⟨fun x hx => h1.agree t1 ops.size (hbound listed) x fun j v hwj => ?_, fun x hx => h2.agree t2 ops.size (hbound listed) x fun j v hwj => ?_⟩
        · unfold Wt at hwj
          cases hv : ws[j]? with
          | none => rw [hv] at hwj; cases hwj
          | some u =>
            rw [hv] at hwj
            refine hiff j u hv ?_
            have : wrIn u.t w0.rt = true := wrIn_of hwj hx
            simp [conf, this]
        · unfold Wb at hwj
          cases hv : ws[j]? with
          | none => rw [hv] at hwj; cases hwj
          | some u =>
            rw [hv] at hwj
            refine hiff j u hv ?_
            have : wrIn u.b w0.rb = true := wrIn_of hwj hx
            simp [conf, this]
      refine wpOp_mono (fun a' w' hR' => ?_) (hop s hagree a wd hR)
      obtain ⟨ws', v, hW', htake, hv, hnr, hR'⟩ := hR'
      have g1 : Inv (Wt ws') (fun p : Nat => ∃ i : Nat, pi[p]? = some i ∧ listed.getD i true = true) s0.tmp s.tmp := h1.swap (fun q hq x => by unfold Wt; rw [htake q (hcovd q hq)])
      have g2 : Inv (Wb ws') (fun p : Nat => ∃ i : Nat, pi[p]? = some i ∧ listed.getD i true = true) s0.blk s.blk := h2.swap (fun q hq x => by unfold Wb; rw [htake q (hcovd q hq)])
      have hWt : Wt ws' ws.length = look v.t := by simp [Wt, hv]
      have hWb : Wb ws' ws.length = look v.b := by simp [Wb, hv]
      have hlong : ws.length < ws'.length := (List.getElem?_eq_some_iff.1 hv).1
      refine ih (listed.setIfInBounds i true) (s.app v) ws' a' w' hW' (by simpa using hsz) hcnt hclosed (fun q j hj hjl => ?_) (fun q j hj hql hqr => ?_) ?_ ?_ hR'
      · rcases (hset q).1 ⟨j, hj, hjl⟩ with h | h
        · have := hcovd q h; omega
        · omega
      · by_cases hji : j = i
        · subst hji
          have hs : j < listed.size := by omega
          simp [hs]
        · rw [getD_set_ne true (Ne.symm hji)]
          rcases Nat.lt_trichotomy q ws.length with h | h | h
          · exact hrl q j hj h hqr
          · exfalso
            subst h
            rw [hp] at hj; cases hj; exact hji rfl
          · rw [hnr q h hql] at hqr; cases hqr
      · have := g1.step (i := ws.length) hnot (fun j x v' u hj hwi hwj => hcovd j hj)
        rw [hWt] at this
        exact this.congr (fun j => (hset j).symm)
      · have := g2.step (i := ws.length) hnot (fun j x v' u hj hwi hwj => hcovd j hj)
        rw [hWb] at this
        exact this.congr (fun j => (hset j).symm)
    · -- one that waits for the open one
      exfalso
      have hx := List.getElem?_eq_getElem (l := pi) (i := ws.length) (by omega)
      have hr := (hlen ws hW).2 (by omega)
      have := waits_ok (hrel ws.length p _ i hr hpw hx hp) hc hpre
      exact absurd (hcov _ _ hx this.2) (Nat.lt_irrefl _)
end
end Go.Proofs.YtpdijogpbnaplaaDoorHz
namespace Go.Proofs.YtpdijogpbnaplaaDoorHz
open Go

def All2 {α β : Type} (R : α → β → Prop) : List α → List β → Prop
  | [], [] => True
  | a :: as, b :: bs => R a b ∧ All2 R as bs
  | _, _ => False
theorem All2.length {α β : Type} {R : α → β → Prop} : ∀ {l : List α} {m : List β}, All2 R l m → l.length = m.length
  | [], [], _ => rfl
  | _ :: _, _ :: _, h => by simp [All2.length h.2]
  | [], _ :: _, h => h.elim
  | _ :: _, [], h => h.elim
theorem All2.get {α β : Type} {R : α → β → Prop} : ∀ {l : List α} {m : List β}, All2 R l m → ∀ (i : Nat) (a : α), l[i]? = some a → ∃ b, m[i]? = some b ∧ R a b
  | [], [], _, i, a, h => by simp at h
  | x :: xs, y :: ys, h, 0, a, e => ⟨y, rfl, by simp at e; subst e; exact h.1⟩
  | x :: xs, y :: ys, h, i + 1, a, e => by simpa using All2.get h.2 i a (by simpa using e)
  | [], _ :: _, h, _, _, _ => h.elim
  | _ :: _, [], h, _, _, _ => h.elim
theorem All2.mono {α β : Type} {R S : α → β → Prop} (hs : ∀ a b, R a b → S a b) : ∀ {l : List α} {m : List β}, All2 R l m → All2 S l m
  | [], [], _ => trivial
  | _ :: _, _ :: _, h => ⟨hs _ _ h.1, All2.mono hs h.2⟩
  | [], _ :: _, h => h.elim
  | _ :: _, [], h => h.elim
theorem All2.append {α β : Type} {R : α → β → Prop} : ∀ {l : List α} {m : List β} {l' : List α} {m' : List β}, All2 R l m → All2 R l' m' → All2 R (l ++ l') (m ++ m')
  | [], [], _, _, _, h' => h'
  | _ :: _, _ :: _, _, _, h, h' => ⟨h.1, All2.append h.2 h'⟩
  | [], _ :: _, _, _, h, _ => h.elim
  | _ :: _, [], _, _, h, _ => h.elim
theorem All2.drop {α β : Type} {R : α → β → Prop} : ∀ (n : Nat) {l : List α} {m : List β}, All2 R l m → All2 R (l.drop n) (m.drop n)
  | 0, _, _, h => h
  | _ + 1, [], [], _ => trivial
  | n + 1, _ :: _, _ :: _, h => All2.drop n h.2
  | _ + 1, [], _ :: _, h => h.elim
  | _ + 1, _ :: _, [], h => h.elim
theorem All2.take {α β : Type} {R : α → β → Prop} : ∀ (n : Nat) {l : List α} {m : List β}, All2 R l m → All2 R (l.take n) (m.take n)
  | 0, _, _, _ => trivial
  | _ + 1, [], [], _ => trivial
  | n + 1, _ :: _, _ :: _, h => ⟨h.1, All2.take n h.2⟩
  | _ + 1, [], _ :: _, h => h.elim
  | _ + 1, _ :: _, [], h => h.elim
theorem All2.set {α β : Type} {R : α → β → Prop} : ∀ {l : List α} {m : List β} (i : Nat) {a : α} {b : β}, All2 R l m → R a b → All2 R (l.set i a) (m.set i b)
  | [], [], _, _, _, h, _ => h
  | _ :: _, _ :: _, 0, _, _, h, r => ⟨r, h.2⟩
  | _ :: _, _ :: _, i + 1, _, _, h, r => ⟨h.1, All2.set i h.2 r⟩
  | [], _ :: _, _, _, _, h, _ => h.elim
  | _ :: _, [], _, _, _, h, _ => h.elim

theorem all2_map {α β γ : Type} {R : α → β → Prop} {R' : γ → β → Prop} {f : α → γ} (hf : ∀ a b, R a b → R' (f a) b) : ∀ {l : List α} {m : List β}, All2 R l m → All2 R' (l.map f) m
  | [], [], _ => trivial
  | _ :: _, _ :: _, h => ⟨hf _ _ h.1, all2_map hf h.2⟩
  | [], _ :: _, h => h.elim
  | _ :: _, [], h => h.elim

inductive N where
  | lit (n : Int)
  | tm (n : Int)
def N.v : N → Int
  | .lit n => n
  | .tm n => n
inductive B where
  | lit (b : Bool)
  | tm (b : Bool)
def B.v : B → Bool
  | .lit b => b
  | .tm b => b
def mkNot : B → B
  | .lit b => .lit (!b)
  | .tm b => .tm (!b)
theorem mkNot_ok (b : B) : (mkNot b).v = !b.v := by cases b <;> rfl
def mkAnd : B → B → B
  | .lit true, b => b
  | .lit false, _ => .lit false
  | .tm x, .lit true => .tm x
  | .tm _, .lit false => .lit false
  | .tm x, .tm y => .tm (x && y)
theorem mkAnd_ok (a b : B) : (mkAnd a b).v = (a.v && b.v) := by
  unfold mkAnd; split <;> simp [B.v]
def mkBeq : B → B → B
  | .lit true, b => b
  | .lit false, b => mkNot b
  | .tm x, .lit true => .tm x
  | .tm x, .lit false => .tm (!x)
  | .tm x, .tm y => .tm (x == y)
theorem mkBeq_ok (a b : B) : (mkBeq a b).v = (a.v == b.v) := by
  unfold mkBeq; split <;> (try rw [mkNot_ok]) <;> simp [B.v]
def eqN : N → N → B
  | .lit a, .lit b => .lit (decide (a = b))
  | a, b => .tm (decide (a.v = b.v))
theorem eqN_ok (a b : N) : (eqN a b).v = decide (a.v = b.v) := by
  unfold eqN; split <;> rfl
def ltN : N → N → B
  | .lit a, .lit b => .lit (decide (a < b))
  | a, b => .tm (decide (a.v < b.v))
theorem ltN_ok (a b : N) : (ltN a b).v = decide (a.v < b.v) := by
  unfold ltN; split <;> rfl
def N.map (f : Int → Int) : N → N
  | .lit a => .lit (f a)
  | .tm a => .tm (f a)
theorem N.map_ok (f : Int → Int) (a : N) : (a.map f).v = f a.v := by cases a <;> rfl
def N.map2 (f : Int → Int → Int) : N → N → N
  | .lit a, .lit b => .lit (f a b)
  | a, b => .tm (f a.v b.v)
theorem N.map2_ok (f : Int → Int → Int) (a b : N) : (N.map2 f a b).v = f a.v b.v := by
  unfold N.map2; split <;> rfl

inductive L where
  | bool (e : B)
  | int (k : IntKind) (e : N)
  | ptr (id off : Nat)
  | elt (id base stride i off : Nat)
  | lel (id stride i off : Nat)
  | vec (id : Nat)
  | sub (id stride lo len : Nat)
  | map (id : Nat)
  | fptr (id b off : Nat)
  | fsub (id b lo n : Nat)
  | clo (f : FuncId) (caps : List (Nat × Nat))
  | ifp (t : TypeId) (id off : Nat)
  | cst (v : Value)
  | junk
  deriving Inhabited
inductive W where
  | one (l : L)
  | agg (ls : List L)
  | arr (k : IntKind) (n : Nat) (g : Nat → Int)
  deriving Inhabited
inductive V where
  | val (w : W)
  | tup (ws : List W)
  | opt (c : Bool) (v : V)
  deriving Inhabited

inductive Pl where
  | blk (b : Nat)
  | val (v : Value)
abbrev Bm := Nat → Option Pl
def Bm.le (β β' : Bm) : Prop := ∀ id b, β id = some b → β' id = some b

def fsubIs (b lo n : Nat) (x : Value) : Prop := (∃ a c, x = .slice a 0 c ∧ n = 0) ∨ ∃ o c, x = .slice (some ⟨b, o, none⟩) n c ∧ n ≤ c ∧ (0 < n → o = lo)
theorem fsubIs.one {b lo n : Nat} {x : Value} (h : fsubIs b lo n x) : x.oneCell' = true := by
  rcases h with ⟨_, _, rfl, _⟩ | ⟨_, _, rfl, _⟩ <;> rfl
theorem fsubIs.len {b lo n : Nat} {x : Value} (h : fsubIs b lo n x) : ∃ a c, x = .slice a n c := by
  rcases h with ⟨_, c, rfl, rfl⟩ | ⟨o, c, rfl, _⟩
  · exact ⟨_, _, rfl⟩
  · exact ⟨_, _, rfl⟩
def capsRel (β : Bm) : List (Nat × Nat) → List Value → Prop
  | [], [] => True
  | p :: ps, x :: xs => (∃ b, β p.1 = some (.blk b) ∧ x = .pointer (some ⟨b, p.2, none⟩)) ∧ capsRel β ps xs
  | _, _ => False
def L.rel (β : Bm) : L → Value → Prop
  | .bool e, x => x = .bool e.v
  | .int k e, x => x = .int k e.v
  | .ptr id off, x => ∃ b, β id = some (.blk b) ∧ x = .pointer (some ⟨b, off, none⟩)
  | .elt id base stride i off, x => ∃ b, β id = some (.blk b) ∧ x = .pointer (some ⟨b, base + i * stride + off, none⟩)
  | .lel id stride i off, x => ∃ a o n c, β id = some (.val (.slice (some ⟨a, o, none⟩) n c)) ∧ x = .pointer (some ⟨a, o + i * stride + off, none⟩)
  | .vec id, x => β id = some (.val x) ∧ ∃ a n c, x = .slice a n c
  | .sub id stride lo len, x => ∃ x0, β id = some (.val x0) ∧ ((∃ c0 c, x0 = .slice none 0 c0 ∧ x = .slice none 0 c ∧ lo = 0 ∧ len = 0) ∨ ∃ a o n c o' c', x0 = .slice (some ⟨a, o, none⟩) n c ∧ x = .slice (some ⟨a, o', none⟩) len c' ∧ lo + len ≤ n ∧ len ≤ c' ∧ (0 < len → o' = o + lo * stride))
  | .map id, x => ∃ b, β id = some (.blk b) ∧ x = .map (some b)
  | .fptr _ b off, x => x = .pointer (some ⟨b, off, none⟩)
  | .fsub _ b lo n, x => fsubIs b lo n x
  | .clo f caps, x => ∃ xs : Array Value, x = .func (.func f) #[] xs ∧ capsRel β caps xs.toList
  | .ifp t id off, x => ∃ b, β id = some (.blk b) ∧ x = .iface t (.pointer (some ⟨b, off, none⟩))
  | .cst v, x => x = v
  | .junk, _ => True
def W.rel (β : Bm) : W → Value → Prop
  | .one l, x => l.rel β x
  | .agg ls, x => ∃ cs, x = .agg cs ∧ All2 (L.rel β) ls cs.toList
  | .arr k n g, x => ∃ cs : Array Value, x = .agg cs ∧ cs.size = n ∧ ∀ j, j < n → cs[j]? = some (.int k (g j))
def V.rel (β : Bm) : V → Value → Prop
  | .val w, x => w.rel β x
  | .tup ws, x => ∃ xs, x = .tuple xs ∧ All2 (W.rel β) ws xs.toList
  | .opt c v, x => (c = true → v.rel β x) ∧ (c = false → x = undef)

theorem capsRel_mono {β β' : Bm} (h : β.le β') : ∀ (ps : List (Nat × Nat)) (xs : List Value), capsRel β ps xs → capsRel β' ps xs
  | [], [], _ => trivial
  | _ :: ps, _ :: xs, ⟨⟨b, h1, h2⟩, h3⟩ => ⟨⟨b, h _ _ h1, h2⟩, capsRel_mono h ps xs h3⟩
  | [], _ :: _, h => h.elim
  | _ :: _, [], h => h.elim
theorem L.rel_mono {β β' : Bm} (h : β.le β') (l : L) (x : Value) (hr : l.rel β x) : l.rel β' x := by
  cases l with
  | ptr id off => obtain ⟨b, h1, h2⟩ := hr; exact ⟨b, h _ _ h1, h2⟩
  | elt id base stride i off => obtain ⟨b, h1, h2⟩ := hr; exact ⟨b, h _ _ h1, h2⟩
  | lel id stride i off => obtain ⟨a, o, n, c, h1, h2⟩ := hr; exact ⟨a, o, n, c, h _ _ h1, h2⟩
  | vec id => exact ⟨h _ _ hr.1, hr.2⟩
  | sub id stride lo len => obtain ⟨x0, h1, h2⟩ := hr; exact ⟨x0, h _ _ h1, h2⟩
  | map id => obtain ⟨b, h1, h2⟩ := hr; exact ⟨b, h _ _ h1, h2⟩
  | clo f caps => obtain ⟨xs, h1, h2⟩ := hr; exact ⟨xs, h1, capsRel_mono h _ _ h2⟩
  | ifp t id off => obtain ⟨b, h1, h2⟩ := hr; exact ⟨b, h _ _ h1, h2⟩
  | _ => exact hr
theorem W.rel_mono {β β' : Bm} (h : β.le β') (w : W) (x : Value) (hr : w.rel β x) : w.rel β' x := by
  cases w with
  | one l => exact L.rel_mono h l x hr
  | agg ls => obtain ⟨cs, h1, h2⟩ := hr; exact ⟨cs, h1, h2.mono (fun l x => L.rel_mono h l x)⟩
  | arr k n g => exact hr
theorem V.rel_mono {β β' : Bm} (h : β.le β') : ∀ (v : V) (x : Value), v.rel β x → v.rel β' x
  | .val w, x, hr => W.rel_mono h w x hr
  | .tup _ws, _x, ⟨xs, h1, h2⟩ => ⟨xs, h1, h2.mono (fun w x => W.rel_mono h w x)⟩
  | .opt _ v, x, hr => ⟨fun hc => V.rel_mono h v x (hr.1 hc), hr.2⟩

def leafOf : Value → Option L
  | .bool b => some (.bool (.lit b))
  | .int k n => some (.int k (.lit n))
  | .agg _ | .tuple _ => none
  | v => some (.cst v)
def leavesOf : List Value → Option (List L)
  | [] => some []
  | v :: vs => match leafOf v, leavesOf vs with
    | some l, some ls => some (l :: ls)
    | _, _ => none
def ofVal : Value → Option W
  | .agg cs => match leavesOf cs.toList with
    | some ls => some (.agg ls)
    | none => none
  | v => match leafOf v with
    | some l => some (.one l)
    | none => none
theorem leafOf_ok {β : Bm} {v : Value} {l : L} (h : leafOf v = some l) : l.rel β v := by
  cases v <;> simp [leafOf] at h <;> subst h <;> simp [L.rel, N.v, B.v]
theorem leavesOf_ok {β : Bm} : ∀ {vs : List Value} {ls : List L}, leavesOf vs = some ls → All2 (L.rel β) ls vs
  | [], ls, h => by simp [leavesOf] at h; subst h; trivial
  | v :: vs, ls, h => by
    unfold leavesOf at h
    split at h
    · rename_i l ls' h1 h2; cases h; exact ⟨leafOf_ok h1, leavesOf_ok h2⟩
    · cases h
theorem ofVal_ok {β : Bm} {v : Value} {w : W} (h : ofVal v = some w) : w.rel β v := by
  unfold ofVal at h
  split at h
  · split at h
    · rename_i ls hl; cases h; exact ⟨_, rfl, leavesOf_ok hl⟩
    · cases h
  · split at h
    · rename_i l hl; cases h; exact leafOf_ok hl
    · cases h

def W.cells : W → List L
  | .one l => [l]
  | .agg ls => ls
  | .arr _ _ _ => []
theorem W.cells_ok {β : Bm} {w : W} {x : Value} (h : w.rel β x) (hx : x.oneCell' = true ∨ ∃ ls, w = .agg ls) : All2 (L.rel β) w.cells x.cells.toList := by
  cases w with
  | one l =>
    rcases hx with hx | ⟨ls, h⟩
    · have : x.cells = #[x] := by cases x <;> first | rfl | (simp [Value.oneCell'] at hx)
      rw [this]; exact ⟨h, trivial⟩
    · cases h
  | agg ls => obtain ⟨cs, rfl, h2⟩ := h; exact h2
  | arr k n g =>
    obtain ⟨cs, rfl, _⟩ := h
    rcases hx with hx | ⟨ls, h⟩
    · cases hx
    · cases h

def L.firm : L → Bool
  | .junk => false
  | .cst v => v.oneCell'
  | _ => true
theorem L.firm_ok {β : Bm} {l : L} {x : Value} (h : l.rel β x) (hf : l.firm = true) : x.oneCell' = true := by
  cases l with
  | bool e => cases h; rfl
  | int k e => cases h; rfl
  | ptr id off => obtain ⟨b, _, rfl⟩ := h; rfl
  | elt id base stride i off => obtain ⟨b, _, rfl⟩ := h; rfl
  | lel id stride i off => obtain ⟨a, o, n, c, _, rfl⟩ := h; rfl
  | sub id stride lo len => obtain ⟨x0, _, ⟨_, _, _, rfl, _⟩ | ⟨a, o, n, c, o', c', _, rfl, _⟩⟩ := h <;> rfl
  | map id => obtain ⟨b, _, rfl⟩ := h; rfl
  | fptr id b off => cases h; rfl
  | fsub id b lo n => exact fsubIs.one h
  | clo f caps => obtain ⟨xs, rfl, _⟩ := h; rfl
  | ifp t id off => obtain ⟨b, _, rfl⟩ := h; rfl
  | cst v => cases h; exact hf
  | vec id => obtain ⟨_, a, n, c, rfl⟩ := h; rfl
  | junk => cases hf
def W.firm : W → Bool
  | .one l => l.firm
  | .agg ls => ls.all L.firm
  | .arr _ _ _ => false
theorem W.firm_cells {β : Bm} {w : W} {x : Value} (h : w.rel β x) (hf : w.firm = true) : All2 (L.rel β) w.cells x.cells.toList :=
  W.cells_ok h (by
    cases w with
    | one l => exact .inl (L.firm_ok (l := l) h hf)
    | agg ls => exact .inr ⟨ls, rfl⟩
    | arr k n g => cases hf)

def tyAgg (P : Program) (t : TypeId) : Option Bool :=
  match P.underlying t with
  | some (.struct _) => some true
  | some (.array _ _) => some true
  | some _ => some false
  | none => none
theorem tyAgg_ok {P : Program} {t : TypeId} {b : Bool} (h : tyAgg P t = some b) (w : World) : (isAgg t).run P w = .ok b w := by
  unfold tyAgg at h
  unfold isAgg underlying
  simp only [Sem.run_bind, run_program, Result.andThen_ok]
  cases hu : P.underlying t with
  | none => rw [hu] at h; cases h
  | some d =>
    rw [hu] at h
    simp only [Sem.run_pure, Result.andThen_ok]
    cases d <;> cases h <;> rfl
def tySize (P : Program) (t : TypeId) : Option Nat :=
  match P.info? t with
  | some i => some i.size
  | none => none
theorem tySize_ok {P : Program} {t : TypeId} {n : Nat} (h : tySize P t = some n) (w : World) : (sizeOf t).run P w = .ok n w := by
  unfold tySize at h
  unfold sizeOf typeInfo
  simp only [Sem.run_bind, run_program, Result.andThen_ok]
  cases hu : P.info? t with
  | none => rw [hu] at h; cases h
  | some i => rw [hu] at h; cases h; rfl
theorem run_under {P : Program} {t : TypeId} {d : TypeDesc} (h : P.underlying t = some d) (w : World) : (underlying t).run P w = .ok d w := by
  unfold underlying
  simp only [Sem.run_bind, run_program, Result.andThen_ok, h]; rfl
theorem run_info {P : Program} {t : TypeId} {i : TypeInfo} (h : P.info? t = some i) (w : World) : (typeInfo t).run P w = .ok i w := by
  unfold typeInfo
  simp only [Sem.run_bind, run_program, Result.andThen_ok, h]; rfl

def partW (P : Program) (t : TypeId) (ls : List L) (off : Nat) : Option W :=
  match tyAgg P t, tySize P t with
  | some true, some n => if off + n ≤ ls.length then some (.agg ((ls.drop off).take n)) else none
  | some false, _ => match ls[off]? with
    | some l => some (.one l)
    | none => none
  | _, _ => none
theorem partW_ok {P : Program} {β : Bm} {t : TypeId} {ls : List L} {cs : Array Value} {off : Nat} {x : W} (h : partW P t ls off = some x) (hr : All2 (L.rel β) ls cs.toList) :
    ∃ y, x.rel β y ∧ ∀ w, (part t cs off).run P w = .ok y w := by
  unfold partW at h
  split at h
  · rename_i n h1 h2
    split at h
    · rename_i hle
      cases h
      refine ⟨.agg (cs.extract off (off + n)), ⟨_, rfl, ?_⟩, fun w => ?_⟩
      · have e : (cs.extract off (off + n)).toList = (cs.toList.drop off).take n := by
          simp [Array.toList_extract, List.extract_eq_take_drop]
        rw [e]
        exact (hr.drop off).take n
      · unfold part
        simp only [Sem.run_bind, tyAgg_ok h1, Result.andThen_ok, if_true, tySize_ok h2, Sem.run_pure]
    · cases h
  · rename_i h1
    split at h
    · rename_i l hl
      cases h
      obtain ⟨y, hy, hr'⟩ := hr.get _ _ hl
      refine ⟨y, hr', fun w => ?_⟩
      unfold part
      simp only [Sem.run_bind, tyAgg_ok h1, Result.andThen_ok, Bool.false_eq_true, if_false]
      have : cs[off]? = some y := by simpa using hy
      rw [this]; rfl
    · cases h
  · cases h

def kindEq (a b : IntKind) : Bool := decide (a = b)
theorem kindEq_eq {a b : IntKind} (h : kindEq a b = true) : a = b := of_decide_eq_true h
def eqFs (P : Program) (f : TypeId → W → W → Option B) (xs ys : List L) : List Field → Option B
  | [] => some (.lit true)
  | g :: gs => if g.name == "_" then eqFs P f xs ys gs else
    match partW P g.type xs g.offset, partW P g.type ys g.offset with
    | some x, some y => match f g.type x y, eqFs P f xs ys gs with
      | some e, some es => some (mkAnd e es)
      | _, _ => none
    | _, _ => none
def eqW (P : Program) : Nat → TypeId → W → W → Option B
  | 0, _, _, _ => none
  | d + 1, t, x, y => match P.underlying t, x, y with
    | some .bool, .one (.bool a), .one (.bool b) => some (mkBeq a b)
    | some (.int _), .one (.int k a), .one (.int l b) => if kindEq k l then some (eqN a b) else none
    | some (.struct fs), .agg xs, .agg ys => if P.stoodInHeld t then none else eqFs P (eqW P d) xs ys fs.toList
    | _, _, _ => none

def EqRun (P : Program) (d : Nat) (t : TypeId) (x y : Value) (b : Bool) : Prop := ∀ w, (Op.equalIn d t x y).run P w = .ok b w
theorem eqFs_ok {P : Program} {β : Bm} {f : TypeId → W → W → Option B} {d : Nat}
    (hf : ∀ t x y e, f t x y = some e → ∀ a b, x.rel β a → y.rel β b → EqRun P d t a b (e.v))
    {xs ys : List L} {as bs : Array Value} (ha : All2 (L.rel β) xs as.toList) (hb : All2 (L.rel β) ys bs.toList) :
    ∀ (gs : List Field) (e : B), eqFs P f xs ys gs = some e → ∀ w, (Op.eqFields d as bs gs).run P w = .ok (e.v) w
  | [], e, h, w => by simp [eqFs] at h; subst h; simp [Op.eqFields, B.v]
  | g :: gs, e, h, w => by
    unfold eqFs at h
    unfold Op.eqFields
    split at h
    · rename_i hn
      rw [if_neg (by simpa using hn)]
      exact eqFs_ok hf ha hb gs e h w
    · rename_i hn
      rw [if_pos (by simpa using hn)]
      split at h
      · rename_i x y hx hy
        split at h
        · rename_i e1 es h1 h2
          cases h
          obtain ⟨a, ra, pa⟩ := partW_ok hx ha
          obtain ⟨b, rb, pb⟩ := partW_ok hy hb
          have he := hf _ _ _ _ h1 a b ra rb
          have ih := eqFs_ok hf ha hb gs es h2 w
          simp only [Sem.run_bind, pa, pb, he w, Result.andThen_ok]
          rw [mkAnd_ok]
          cases e1.v
          · simp
          · simpa using ih
        · cases h
      · cases h

theorem eqW_ok {P : Program} {β : Bm} : ∀ (n : Nat) (t : TypeId) (x y : W) (e : B), eqW P n t x y = some e →
    ∀ a b, x.rel β a → y.rel β b → ∀ d, n ≤ d → EqRun P d t a b e.v
  | 0, _, _, _, _, h, _, _, _, _, _, _ => by cases h
  | n + 1, t, x, y, e, h, a, b, ha, hb, d, hd => by
    obtain ⟨d, rfl⟩ : ∃ d', d = d' + 1 := ⟨d - 1, by omega⟩
    intro w
    unfold eqW at h
    split at h
    · rename_i p q hu
      cases h; cases ha; cases hb
      rw [run_equalIn_bool' w d t _ _ hu, mkBeq_ok]
    · rename_i k0 k p l q hu
      split at h
      · rename_i hk
        cases h; cases ha; cases hb
        have := kindEq_eq hk
        subst this
        rw [run_equalIn_int w d t _ k0 _ _ hu, eqN_ok]; rfl
      · cases h
    · rename_i fs xs ys hu
      split at h
      · cases h
      · rename_i hs
        obtain ⟨as, rfl, ha'⟩ := ha
        obtain ⟨bs, rfl, hb'⟩ := hb
        have hfs : P.fieldsOf t = fs := by simp [Program.fieldsOf, hu]
        rw [run_equalIn_agg w d t as bs (by rw [hfs]; exact hu) (by simpa using hs), hfs]
        exact eqFs_ok (fun t x y e he a b ra rb => eqW_ok n t x y e he a b ra rb d (by omega)) ha' hb' _ _ h w
    · cases h

def modN (a b : N) : N := N.map2 Int.tmod a b
def binI (op : BinOp) (k : IntKind) (a : N) (l : IntKind) (b : N) : Option L :=
  if kindEq k l then (match op with
    | .add => some (.int k (N.map2 (fun x y => k.wrap (x + y)) a b))
    | .sub => some (.int k (N.map2 (fun x y => k.wrap (x - y)) a b))
    | .mul => some (.int k (N.map2 (fun x y => k.wrap (x * y)) a b))
    | .quo => (match b with | .lit c => if c = 0 then none else some (.int k (a.map (fun x => k.wrap (x.tdiv c)))) | _ => none)
    | .rem => (match b with | .lit c => if c = 0 then none else some (.int k (a.map (fun x => x.tmod c))) | _ => none)
    | .and => some (.int k (N.map2 (fun x y => Go.bits .and k x y) a b))
    | .or => some (.int k (N.map2 (fun x y => Go.bits .or k x y) a b))
    | .xor => some (.int k (N.map2 (fun x y => Go.bits .xor k x y) a b))
    | .andNot => some (.int k (N.map2 (fun x y => Go.bits .andNot k x y) a b))
    | .eql => some (.bool (eqN a b))
    | .neq => some (.bool (mkNot (eqN a b)))
    | .lss => some (.bool (ltN a b))
    | .gtr => some (.bool (ltN b a))
    | .leq => some (.bool (mkNot (ltN b a)))
    | .geq => some (.bool (mkNot (ltN a b)))
    | _ => none) else none
theorem guard_int (P : Program) (op : BinOp) (t : TypeId) (x y : Operand) (k l : IntKind) (a b : Int) (w : World) : (eqGuard op t x y (.int k a) (.int l b)).run P w = .ok () w := by
  unfold eqGuard; cases op <;> rfl
theorem guard_bool (P : Program) (op : BinOp) (t : TypeId) (x y : Operand) (a b : Bool) (w : World) : (eqGuard op t x y (.bool a) (.bool b)).run P w = .ok () w := by
  unfold eqGuard; cases op <;> rfl
theorem guard_str (P : Program) (op : BinOp) (t : TypeId) (x y : Operand) (a b : ByteArray) (w : World) : (eqGuard op t x y (.string a) (.string b)).run P w = .ok () w := by
  unfold eqGuard; cases op <;> rfl
theorem binI_ok {P : Program} {β : Bm} {op : BinOp} {k l : IntKind} {a b : N} {r : L} (h : binI op k a l b = some r) (t : TypeId) :
    ∃ x, r.rel β x ∧ ∀ w, (binOp op t (.int k a.v) (.int l b.v)).run P w = .ok x w := by
  unfold binI at h
  split at h
  · rename_i hk
    have := kindEq_eq hk
    subst this
    split at h
    · cases h; exact ⟨_, rfl, fun w => by simp only [binOp, ne_eq, not_true_eq_false, if_false, Op.intArith, N.map2_ok]; rfl⟩
    · cases h; exact ⟨_, rfl, fun w => by simp only [binOp, ne_eq, not_true_eq_false, if_false, Op.intArith, N.map2_ok]; rfl⟩
    · cases h; exact ⟨_, rfl, fun w => by simp only [binOp, ne_eq, not_true_eq_false, if_false, Op.intArith, N.map2_ok]; rfl⟩
    · split at h
      · split at h
        · cases h
        · rename_i c h0
          cases h; exact ⟨_, rfl, fun w => by simp only [binOp, ne_eq, not_true_eq_false, if_false, Op.intDiv, show (N.lit c).v = c from rfl, if_neg h0, N.map_ok]; rfl⟩
      · cases h
    · split at h
      · split at h
        · cases h
        · rename_i c h0
          cases h; exact ⟨_, rfl, fun w => by simp only [binOp, ne_eq, not_true_eq_false, if_false, Op.intDiv, show (N.lit c).v = c from rfl, if_neg h0, N.map_ok]; rfl⟩
      · cases h
    · cases h; exact ⟨_, rfl, fun w => by simp only [binOp, ne_eq, not_true_eq_false, if_false, intBits_and, N.map2_ok]; rfl⟩
    · cases h; exact ⟨_, rfl, fun w => by simp only [binOp, ne_eq, not_true_eq_false, if_false, intBits_or, N.map2_ok]; rfl⟩
    · cases h; exact ⟨_, rfl, fun w => by simp only [binOp, ne_eq, not_true_eq_false, if_false, intBits_xor, N.map2_ok]; rfl⟩
    · cases h; exact ⟨_, rfl, fun w => by simp only [binOp, ne_eq, not_true_eq_false, if_false, intBits_andNot, N.map2_ok]; rfl⟩
    · cases h; exact ⟨_, rfl, fun w => by simp only [binOp, ne_eq, not_true_eq_false, if_false, Op.intCmp, eqN_ok]; rfl⟩
    · cases h; exact ⟨_, rfl, fun w => by simp only [binOp, ne_eq, not_true_eq_false, if_false, Op.intCmp, mkNot_ok, eqN_ok]; rfl⟩
    · cases h; exact ⟨_, rfl, fun w => by simp only [binOp, ne_eq, not_true_eq_false, if_false, Op.intCmp, ltN_ok]; rfl⟩
    · cases h; exact ⟨_, rfl, fun w => by simp only [binOp, ne_eq, not_true_eq_false, if_false, Op.intCmp, ltN_ok, gt_iff_lt]; rfl⟩
    · cases h
      refine ⟨_, rfl, fun w => ?_⟩
      simp only [binOp, ne_eq, not_true_eq_false, if_false, Op.intCmp, mkNot_ok, ltN_ok]
      have e : decide (a.v ≤ b.v) = !decide (b.v < a.v) := by rw [← decide_not]; congr 1; simp
      rw [e]; rfl
    · cases h
      refine ⟨_, rfl, fun w => ?_⟩
      simp only [binOp, ne_eq, not_true_eq_false, if_false, Op.intCmp, mkNot_ok, ltN_ok]
      have e : decide (a.v ≥ b.v) = !decide (a.v < b.v) := by rw [← decide_not]; congr 1; simp
      rw [e]; rfl
    · cases h
  · cases h
def binV (P : Program) (op : BinOp) (t : TypeId) (x y : W) : Option L :=
  match x, y with
  | .one (.int k a), .one (.int l b) => binI op k a l b
  | .one (.bool a), .one (.bool b) => (match op with
    | .eql => (match eqW P 64 t (.one (.bool a)) (.one (.bool b)) with | some e => some (.bool e) | none => none)
    | .neq => (match eqW P 64 t (.one (.bool a)) (.one (.bool b)) with | some e => some (.bool (mkNot e)) | none => none)
    | _ => none)
  | .agg xs, .agg ys => if P.eqGuardType P.depth t then none else (match op with
    | .eql => (match eqW P 64 t (.agg xs) (.agg ys) with | some e => some (.bool e) | none => none)
    | .neq => (match eqW P 64 t (.agg xs) (.agg ys) with | some e => some (.bool (mkNot e)) | none => none)
    | _ => none)
  | .one (.cst (.string a)), .one (.cst (.string b)) => (match op with
    | .eql => some (.bool (.tm (a.toList == b.toList)))
    | .neq => some (.bool (.tm (!(a.toList == b.toList))))
    | _ => none)
  | _, _ => none
theorem binV_ok {P : Program} {β : Bm} {op : BinOp} {t : TypeId} {x y : W} {r : L} (h : binV P op t x y = some r) {a b : Value} (ha : x.rel β a) (hb : y.rel β b) (xo yo : Operand) :
    ∃ z, r.rel β z ∧ ∀ w, (do eqGuard op t xo yo a b; binOp op t a b).run P w = .ok z w := by
  unfold binV at h
  split at h
  · cases ha; cases hb
    obtain ⟨z, hz, hw⟩ := binI_ok (β := β) (P := P) h t
    exact ⟨z, hz, fun w => by simp only [Sem.run_bind, guard_int, Result.andThen_ok]; exact hw w⟩
  · rename_i p q
    split at h
    · split at h
      · rename_i e he
        cases h
        refine ⟨_, rfl, fun w => ?_⟩
        have := eqW_ok _ _ _ _ _ he a b ha hb 10000 (by decide) w
        cases ha; cases hb
        simp only [Sem.run_bind, guard_bool, Result.andThen_ok, binOp, Op.equal, Op.maxDepth, this]
        rfl
      · cases h
    · split at h
      · rename_i e he
        cases h
        refine ⟨_, rfl, fun w => ?_⟩
        have := eqW_ok _ _ _ _ _ he a b ha hb 10000 (by decide) w
        cases ha; cases hb
        simp only [Sem.run_bind, guard_bool, Result.andThen_ok, binOp, Op.equal, Op.maxDepth, this, mkNot_ok]
        rfl
      · cases h
    · cases h
  · rename_i xs ys
    split at h
    · cases h
    · rename_i hg
      split at h
      · split at h
        · rename_i e he
          cases h
          refine ⟨_, rfl, fun w => ?_⟩
          have := eqW_ok _ _ _ _ _ he a b ha hb 10000 (by decide) w
          obtain ⟨as, rfl, _⟩ := ha
          obtain ⟨bs, rfl, _⟩ := hb
          simp only [Sem.run_bind, run_eqGuard_agg w .eql t xo yo as bs (by simpa using hg), Result.andThen_ok, run_eql_struct, this]
        · cases h
      · split at h
        · rename_i e he
          cases h
          refine ⟨_, rfl, fun w => ?_⟩
          have := eqW_ok _ _ _ _ _ he a b ha hb 10000 (by decide) w
          obtain ⟨as, rfl, _⟩ := ha
          obtain ⟨bs, rfl, _⟩ := hb
          simp only [Sem.run_bind, run_eqGuard_agg w .neq t xo yo as bs (by simpa using hg), Result.andThen_ok, run_neq_struct, this, mkNot_ok]
        · cases h
      · cases h
  · split at h
    · cases h; cases ha; cases hb
      exact ⟨_, rfl, fun w => by simp only [Sem.run_bind, guard_str, Result.andThen_ok, binOp, Op.stringOp]; rfl⟩
    · cases h; cases ha; cases hb
      exact ⟨_, rfl, fun w => by simp only [Sem.run_bind, guard_str, Result.andThen_ok, binOp, Op.stringOp]; rfl⟩
    · cases h
  · cases h

def setRun (off : Nat) : List L → List L → List L
  | [], cs => cs
  | l :: ls, cs => setRun (off + 1) ls (cs.set off l)
theorem setRun_ok {β : Bm} : ∀ (ls : List L) (vs : List Value) (off j : Nat) (cs : List L) (ds : Array Value), All2 (L.rel β) ls vs → All2 (L.rel β) cs ds.toList →
    All2 (L.rel β) (setRun (off + j) ls cs) ((vs.zipIdx j).foldl (fun cs (p : Value × Nat) => cs.setIfInBounds (off + p.2) p.1) ds).toList
  | [], [], _, _, _, _, _, h => h
  | l :: ls, v :: vs, off, j, cs, ds, hl, h => by
    simp only [List.zipIdx_cons, List.foldl_cons, setRun]
    have := setRun_ok ls vs off (j + 1) (cs.set (off + j) l) (ds.setIfInBounds (off + j) v) hl.2 (by
      rw [Array.toList_setIfInBounds]; exact h.set _ hl.1)
    exact this
  | [], _ :: _, _, _, _, _, h, _ => h.elim
  | _ :: _, [], _, _, _, _, h, _ => h.elim

def fillW (place : Nat → Option (Nat × Nat)) : List L → List (Nat × W) → Option (List L)
  | cs, [] => some cs
  | cs, (i, w) :: rest => match place i with
    | none => none
    | some (off, size) => if w.firm && Nat.beq w.cells.length size && Nat.ble (off + w.cells.length) cs.length then fillW place (setRun off w.cells cs) rest else none
theorem fillW_ok {β : Bm} {place : Nat → Option (Nat × Nat)} : ∀ (ps : List (Nat × W)) (vs : List (Nat × Value)) (cs : List L) (ds : Array Value) (rs : List L),
    All2 (fun p q => p.1 = q.1 ∧ W.rel β p.2 q.2) ps vs → All2 (L.rel β) cs ds.toList → fillW place cs ps = some rs → ∃ es, Instr.fill place ds vs = some es ∧ All2 (L.rel β) rs es.toList
  | [], [], cs, ds, rs, _, h, e => by simp [fillW] at e; subst e; exact ⟨ds, rfl, h⟩
  | (i, w) :: ps, (j, v) :: vs, cs, ds, rs, hp, h, e => by
    obtain ⟨⟨rfl, hw⟩, hrest⟩ := hp
    unfold fillW at e
    unfold Instr.fill
    split at e
    · cases e
    · rename_i off size hpl
      split at e
      · rename_i hc
        simp only [Bool.and_eq_true] at hc
        have h1 := W.firm_cells hw hc.1.1
        have h2 := Nat.eq_of_beq_eq_true hc.1.2
        have h3 := Nat.le_of_ble_eq_true hc.2
        have h4 := h1.length
        have h5 := h.length
        simp only [Array.length_toList] at h4 h5
        simp only [hpl]
        rw [if_neg (by simp only [ne_eq, Bool.or_eq_true, decide_eq_true_eq, not_or]; omega)]
        refine fillW_ok ps vs _ _ rs hrest ?_ e
        have := setRun_ok w.cells v.cells.toList off 0 cs ds h1 h
        rw [← Array.foldl_toList, Array.toList_zipIdx]
        exact this
      · cases e
  | [], _ :: _, _, _, _, h, _, _ => h.elim
  | _ :: _, [], _, _, _, h, _, _ => h.elim

def zeroW (P : Program) (t : TypeId) : Option W :=
  match P.info? t with
  | some i => match i.zero with
    | some v => match ofVal v with
      | some w => if w.firm then some w else none
      | none => none
    | none => none
  | none => none
theorem zeroW_ok {P : Program} {t : TypeId} {w : W} (h : zeroW P t = some w) (β : Bm) : w.firm = true ∧ ∃ v, w.rel β v ∧ ∀ wd, (zeroValue t).run P wd = .ok v wd := by
  unfold zeroW at h
  split at h
  · rename_i i hi
    split at h
    · rename_i v hv
      split at h
      · rename_i w' hw
        split at h
        · rename_i hf
          cases h
          refine ⟨hf, v, ofVal_ok hw, fun wd => ?_⟩
          unfold zeroValue
          simp only [Sem.run_bind, run_info hi, Result.andThen_ok, hv]; rfl
        · cases h
      · cases h
    · cases h
  · cases h

def structPlaces (P : Program) : List Field → Option (List (Nat × Nat))
  | [] => some []
  | f :: fs => match tySize P f.type, structPlaces P fs with
    | some n, some r => some ((f.offset, n) :: r)
    | _, _ => none
theorem structPlaces_ok {P : Program} : ∀ (fs : List Field) (r : List (Nat × Nat)), structPlaces P fs = some r → ∀ w,
    (fs.mapM fun f => do pure (f.offset, ← sizeOf f.type) : Sem (List (Nat × Nat))).run P w = .ok r w
  | [], r, h, w => by simp [structPlaces] at h; subst h; rfl
  | f :: fs, r, h, w => by
    unfold structPlaces at h
    split at h
    · rename_i n r' h1 h2
      cases h
      have ih := structPlaces_ok fs r' h2 w
      simp only [List.mapM_cons, Sem.run_bind, tySize_ok h1, Result.andThen_ok, Sem.run_pure]
      rw [ih]
      rfl
    · cases h

def buildW (P : Program) (t : TypeId) (ps : List (Nat × W)) : Option (List L) :=
  match zeroW P t, P.underlying t with
  | some z, some (.struct fs) => match structPlaces P fs.toList with
    | some pl => fillW (fun i => pl[i]?) z.cells ps
    | none => none
  | some z, some (.array _ e) => match tySize P e with
    | some n => fillW (fun i => some (i * n, n)) z.cells ps
    | none => none
  | _, _ => none
theorem buildW_ok {P : Program} {β : Bm} {t : TypeId} {ps : List (Nat × W)} {vs : List (Nat × Value)} {rs : List L} (h : buildW P t ps = some rs)
    (hv : All2 (fun p q => p.1 = q.1 ∧ W.rel β p.2 q.2) ps vs) : ∃ es, All2 (L.rel β) rs es.toList ∧ ∀ w, (Instr.build t vs.toArray).run P w = .ok (.agg es) w := by
  unfold buildW at h
  split at h
  · rename_i z fs hz hu
    split at h
    · rename_i pl hpl
      obtain ⟨hf, v, hzv, hzr⟩ := zeroW_ok hz β
      obtain ⟨es, he, hr⟩ := fillW_ok ps vs z.cells v.cells rs hv (W.firm_cells hzv hf) h
      refine ⟨es, hr, fun w => ?_⟩
      unfold Instr.build
      simp only [Sem.run_bind, hzr, Result.andThen_ok, run_under hu]
      have := structPlaces_ok _ _ hpl w
      rw [show (fs.mapM fun f => do pure (f.offset, ← sizeOf f.type) : Sem (Array (Nat × Nat))) = (List.toArray <$> (fs.toList.mapM fun f => do pure (f.offset, ← sizeOf f.type))) from by rw [Array.mapM_eq_mapM_toList]]
      simp only [Sem.run_map, this, Result.andThen_ok]
      have e2 : (fun i : Nat => (pl.toArray)[i]?) = (fun i : Nat => pl[i]?) := by funext i; simp
      simp only [e2, he]
      rfl
    · cases h
  · rename_i z n e hz hu
    split at h
    · rename_i k hk
      obtain ⟨hf, v, hzv, hzr⟩ := zeroW_ok hz β
      obtain ⟨es, he, hr⟩ := fillW_ok ps vs z.cells v.cells rs hv (W.firm_cells hzv hf) h
      refine ⟨es, hr, fun w => ?_⟩
      unfold Instr.build
      simp only [Sem.run_bind, hzr, Result.andThen_ok, run_under hu, tySize_ok hk, he]
      rfl
    · cases h
  · cases h
end Go.Proofs.YtpdijogpbnaplaaDoorHz
namespace Go.Proofs.YtpdijogpbnaplaaDoorHz
open Go Go.RowKit

def noHint : Nat := 4294967295
def hint2 (a b : Nat) : Nat := if Nat.beq a noHint then b else a
inductive Col where
  | ints (k : IntKind) (g : Nat → Int)
  | bools (g : Nat → Bool)
  | vals (g : Nat → Value)
  | fsubs (id : Nat) (bb lo ln : Nat → Nat)
def Col.at (c : Col) (i : Nat) : L := match c with
  | .ints k g => .int k (.tm (g i))
  | .bools g => .bool (.tm (g i))
  | .vals g => .cst (g i)
  | .fsubs id bb lo ln => .fsub id (bb i) (lo i) (ln i)
def putN {α : Type} (g : Nat → α) (i : Nat) (v : α) : Nat → α := fun j => if j = i then v else g j
def Col.put (c : Col) (i : Nat) (l : L) : Option Col := match c, l with
  | .ints k g, .int k' n => if kindEq k k' then some (.ints k (putN g i n.v)) else none
  | .bools g, .bool b => some (.bools (putN g i b.v))
  | .fsubs id bb lo ln, .fsub id' b o n => some (.fsubs (hint2 id id') (putN bb i b) (putN lo i o) (putN ln i n))
  | _, _ => none
def Col.rel (c : Col) (i : Nat) (x : Value) : Prop := match c with
  | .ints k g => x = .int k (g i)
  | .bools g => x = .bool (g i)
  | .vals g => x = g i
  | .fsubs _ bb lo ln => fsubIs (bb i) (lo i) (ln i) x
theorem Col.at_rel (c : Col) (i : Nat) (β : Bm) (x : Value) : (c.at i).rel β x ↔ c.rel i x := by cases c <;> rfl
theorem Col.put_same {c c' : Col} {i : Nat} {l : L} {β : Bm} {x : Value} (h : c.put i l = some c') (hr : l.rel β x) : c'.rel i x := by
  unfold Col.put at h
  split at h
  · split at h
    · rename_i hk
      cases h
      have := kindEq_eq hk
      subst this
      simp only [Col.rel, putN, if_true]; exact hr
    · cases h
  · cases h; simp only [Col.rel, putN, if_true]; exact hr
  · cases h; simp only [Col.rel, putN, if_true]; exact hr
  · cases h
theorem Col.put_other {c c' : Col} {i j : Nat} {l : L} {x : Value} (h : c.put i l = some c') (hj : j ≠ i) (hr : c.rel j x) : c'.rel j x := by
  unfold Col.put at h
  split at h
  · split at h
    · cases h; simp only [Col.rel, putN, if_neg hj]; exact hr
    · cases h
  · cases h; simp only [Col.rel, putN, if_neg hj]; exact hr
  · cases h; simp only [Col.rel, putN, if_neg hj]; exact hr
  · cases h

inductive KCol where
  | ints (k : IntKind) (g : Int → Int)
  | bools (g : Int → Bool)
  | fptrs (id : Nat) (bb : Int → Nat)
def KCol.at (c : KCol) (i : Int) : L := match c with
  | .ints k g => .int k (.tm (g i))
  | .bools g => .bool (.tm (g i))
  | .fptrs id bb => .fptr id (bb i) 0
def putK {α : Type} (g : Int → α) (i : Int) (v : α) : Int → α := fun j => if j = i then v else g j
def KCol.put (c : KCol) (i : Int) (l : L) : Option KCol := match c, l with
  | .ints k g, .int k' n => if kindEq k k' then some (.ints k (putK g i n.v)) else none
  | .bools g, .bool b => some (.bools (putK g i b.v))
  | .fptrs id bb, .fptr id' b off => if Nat.beq off 0 then some (.fptrs (hint2 id id') (putK bb i b)) else none
  | _, _ => none
def KCol.rel (c : KCol) (i : Int) (x : Value) : Prop := match c with
  | .ints k g => x = .int k (g i)
  | .bools g => x = .bool (g i)
  | .fptrs _ bb => x = .pointer (some ⟨bb i, 0, none⟩)
theorem KCol.at_rel (c : KCol) (i : Int) (β : Bm) (x : Value) : (c.at i).rel β x ↔ c.rel i x := by cases c <;> rfl
theorem KCol.put_same {c c' : KCol} {i : Int} {l : L} {β : Bm} {x : Value} (h : c.put i l = some c') (hr : l.rel β x) : c'.rel i x := by
  unfold KCol.put at h
  split at h
  · split at h
    · rename_i hk
      cases h
      have := kindEq_eq hk
      subst this
      simp only [KCol.rel, putK, if_true]; exact hr
    · cases h
  · cases h; simp only [KCol.rel, putK, if_true]; exact hr
  · split at h
    · rename_i ho
      cases h
      have := Nat.eq_of_beq_eq_true ho
      subst this
      simp only [KCol.rel, putK, if_true]; exact hr
    · cases h
  · cases h
theorem KCol.put_other {c c' : KCol} {i j : Int} {l : L} {x : Value} (h : c.put i l = some c') (hj : j ≠ i) (hr : c.rel j x) : c'.rel j x := by
  unfold KCol.put at h
  split at h
  · split at h
    · cases h; simp only [KCol.rel, putK, if_neg hj]; exact hr
    · cases h
  · cases h; simp only [KCol.rel, putK, if_neg hj]; exact hr
  · split at h
    · cases h; simp only [KCol.rel, putK, if_neg hj]; exact hr
    · cases h
  · cases h

inductive Seg where
  | cells (ls : List L)
  | arr (n : Nat) (cols : List Col)
structure Gh where
  dom : Int → Bool
  born : Int → Nat
  clock : Nat
inductive Ob where
  | mem (own : Bool) (segs : List Seg)
  | mp (own : Bool) (key : IntKind) (agg : Bool) (has : Int → Bool) (cols : List KCol)
  | vec (own : Bool) (e : TypeId) (n : Nat) (cols : List Col)
  | mpl (own : Bool) (key : IntKind) (agg : Bool) (has : Int → Bool) (cols : List KCol) (g : Gh)
  | itr (own : Bool) (mid : Nat) (g : Gh) (seen : Int → Bool) (cur : Option Int)
  | rof (k : IntKind) (dom : Nat → Bool) (vis : Nat → Nat → Bool) (g : Nat → Nat → Int)
  | fam (own : Bool) (e : TypeId) (k : IntKind) (len : Nat → Nat) (dom : Nat → Bool) (g : Nat → Nat → Int)
  | gone
def Ob.own : Ob → Bool
  | .mem o _ => o
  | .mp o _ _ _ _ => o
  | .vec o _ _ _ => o
  | .mpl o _ _ _ _ _ => o
  | .itr o _ _ _ _ => o
  | .rof _ _ _ _ => false
  | .fam o _ _ _ _ _ => o
  | .gone => false
def Pl.at_ : Pl → Nat → Prop
  | .blk c, b => b = c
  | .val (.slice (some a) _ _), b => b = a.block
  | .val _, _ => False
def Ob.foot : Ob → Pl → Nat → Prop
  | .rof _ dom _ _, _, b => dom b = true
  | .fam _ _ _ _ dom _, _, b => dom b = true
  | _, p, b => p.at_ b

def rowOk (w : World) (b off n : Nat) (cols : List Col) : Prop := ∀ i, i < n → ∀ (j : Nat) (c : Col), cols[j]? = some c → ∃ x, w.cell? ⟨b, off + i * cols.length + j, none⟩ = some x ∧ c.rel i x
def segsOk (β : Bm) (w : World) (b : Nat) : Nat → List Seg → Prop
  | _, [] => True
  | off, .cells ls :: r => (∀ (j : Nat) (l : L), ls[j]? = some l → ∃ x, w.cell? ⟨b, off + j, none⟩ = some x ∧ l.rel β x) ∧ segsOk β w b (off + ls.length) r
  | off, .arr n cols :: r => rowOk w b off n cols ∧ segsOk β w b (off + n * cols.length) r
def kval (agg : Bool) (cols : List KCol) (k : Int) (x : Value) : Prop :=
  if agg then ∃ cs : Array Value, x = .agg cs ∧ cs.size = cols.length ∧ ∀ (j : Nat) (c : KCol), cols[j]? = some c → ∃ y, cs[j]? = some y ∧ c.rel k y
  else ∃ c, cols = [c] ∧ c.rel k x
structure mapOk (key : IntKind) (agg : Bool) (has : Int → Bool) (cols : List KCol) (es : Array MapEntry) (clock : Nat) : Prop where
  keys : ∀ e ∈ es.toList, ∃ k : Int, e.key = .int key k ∧ has k = true ∧ kval agg cols k e.val
  all : ∀ k : Int, has k = true → ∃ e ∈ es.toList, e.key = .int key k
  once : (es.toList.map (·.key)).Nodup
  born : ∀ e ∈ es.toList, e.born < clock
  apart : (es.toList.map (·.born)).Nodup
structure laidOk (key : IntKind) (has : Int → Bool) (es : Array MapEntry) (g : Gh) : Prop where
  at_ : ∀ e ∈ es.toList, ∀ k : Int, e.key = .int key k → e.born = g.born k
  dom : ∀ k, has k = true → g.dom k = true
  inj : ∀ k k', g.dom k = true → g.dom k' = true → g.born k = g.born k' → k = k'
def noFreeze (w : World) (b : Nat) : Prop := ∀ j, w.frozen? ⟨b, j, none⟩ = false
def Ob.ok (β : Bm) (w : World) : Ob → Pl → Prop
  | .mem own segs, .blk b => b < w.heap.size ∧ segsOk β w b 0 segs ∧ (own = true → noFreeze w b)
  | .mp _ key agg has cols, .blk b => b < w.heap.size ∧ ∃ es clock, w.heap[b]? = some (.map es clock) ∧ mapOk key agg has cols es clock
  | .mpl _ key agg has cols g, .blk b => b < w.heap.size ∧ ∃ es, w.heap[b]? = some (.map es g.clock) ∧ mapOk key agg has cols es g.clock ∧ laidOk key has es g
  | .itr _ mid g seen cur, .blk r => r < w.heap.size ∧ ∃ bm sn, β mid = some (.blk bm) ∧ w.heap[r]? = some (.mapIter (some bm) g.clock sn g.clock) ∧ (∀ k, g.dom k = true → (seen k = true ↔ g.born k ∈ sn.toList)) ∧ ∀ k, cur = some k → g.dom k = true ∧ ∃ sn' : Array Nat, sn = sn'.push (g.born k)
  | .vec own e n cols, .val x => n ≤ 9223372036854775807 ∧ ((∃ c, x = .slice none 0 c ∧ n = 0 ∧ (own = true → c = 0)) ∨ ∃ b off cap, x = .slice (some ⟨b, off, none⟩) n cap ∧ b < w.heap.size ∧ n ≤ cap ∧ rowOk w b off n cols ∧
      (own = true → off = 0 ∧ cap ≤ 9223372036854775807 ∧ ∃ cs, w.heap[b]? = some (.cells cs e (0, 0)) ∧ cs.size = cap * cols.length))
  | .rof k dom vis g, _ => ∀ b, dom b = true → b < w.heap.size ∧ ∀ j, vis b j = true → w.cell? ⟨b, j, none⟩ = some (.int k (g b j))
  | .fam own e k len dom g, _ => ∀ b, dom b = true → b < w.heap.size ∧ (∀ j, j < len b → w.cell? ⟨b, j, none⟩ = some (.int k (g b j))) ∧ (own = true → ∃ cs, w.heap[b]? = some (.cells cs e (0, 0)) ∧ cs.size = len b)
  | .gone, _ => True
  | _, _ => False

theorem cell?_same {w w' : World} {b : Nat} (h : w'.heap[b]? = w.heap[b]?) (j : Nat) : w'.cell? ⟨b, j, none⟩ = w.cell? ⟨b, j, none⟩ := by simp only [World.cell?, h]
theorem frozen?_same {w w' : World} {b : Nat} (h : w'.heap[b]? = w.heap[b]?) (j : Nat) : w'.frozen? ⟨b, j, none⟩ = w.frozen? ⟨b, j, none⟩ := by simp only [World.frozen?, h]
theorem rowOk_same {w w' : World} {b : Nat} (h : w'.heap[b]? = w.heap[b]?) {off n : Nat} {cols : List Col} (hr : rowOk w b off n cols) : rowOk w' b off n cols := by
  intro i hi j c hc
  obtain ⟨x, h1, h2⟩ := hr i hi j c hc
  exact ⟨x, by rw [cell?_same h]; exact h1, h2⟩
theorem segsOk_same {β β' : Bm} (hb : β.le β') {w w' : World} {b : Nat} (h : w'.heap[b]? = w.heap[b]?) : ∀ {off : Nat} {segs : List Seg}, segsOk β w b off segs → segsOk β' w' b off segs
  | _, [], _ => trivial
  | _, .cells ls :: r, ⟨h1, h2⟩ => ⟨fun j l hl => let ⟨x, k1, k2⟩ := h1 j l hl; ⟨x, by rw [cell?_same h]; exact k1, L.rel_mono hb l x k2⟩, segsOk_same hb h h2⟩
  | _, .arr n cols :: r, ⟨h1, h2⟩ => ⟨rowOk_same h h1, segsOk_same hb h h2⟩
theorem noFreeze_same {w w' : World} {b : Nat} (h : w'.heap[b]? = w.heap[b]?) (hf : noFreeze w b) : noFreeze w' b := fun j => by rw [frozen?_same h]; exact hf j
theorem Ob.ok_same {β β' : Bm} (hb : β.le β') {w w' : World} (hs : w.heap.size ≤ w'.heap.size) : ∀ {o : Ob} {p : Pl}, o.ok β w p → (∀ b, o.foot p b → w'.heap[b]? = w.heap[b]?) → o.ok β' w' p
  | .mem own segs, .blk b, ⟨h1, h2, h3⟩, h => ⟨Nat.lt_of_lt_of_le h1 hs, segsOk_same hb (h b rfl) h2, fun ho => noFreeze_same (h b rfl) (h3 ho)⟩
  | .mp _ key agg has cols, .blk b, ⟨h1, es, clock, h2, h3⟩, h => ⟨Nat.lt_of_lt_of_le h1 hs, es, clock, by rw [h b rfl]; exact h2, h3⟩
  | .vec own e n cols, .val x, ⟨h0, h1⟩, h => by
    refine ⟨h0, ?_⟩
    rcases h1 with h1 | ⟨b, off, cap, rfl, k1, k2, k3, k4⟩
    · exact .inl h1
    · have e := h b rfl
      exact .inr ⟨b, off, cap, rfl, Nat.lt_of_lt_of_le k1 hs, k2, rowOk_same e k3, fun ho => by rw [e]; exact k4 ho⟩
  | .mpl _ key agg has cols g, .blk b, ⟨h1, es, h2, h3⟩, h => ⟨Nat.lt_of_lt_of_le h1 hs, es, by rw [h b rfl]; exact h2, h3⟩
  | .itr _ mid g seen cur, .blk r, ⟨h1, bm, sn, h2, h3, h4⟩, h => ⟨Nat.lt_of_lt_of_le h1 hs, bm, sn, hb _ _ h2, by rw [h r rfl]; exact h3, h4⟩
  | .rof k dom vis g, _, h, hf => fun b hb => by
    obtain ⟨h1, h2⟩ := h b hb
    exact ⟨Nat.lt_of_lt_of_le h1 hs, fun j hj => by rw [cell?_same (hf b hb)]; exact h2 j hj⟩
  | .fam _ e k len dom g, _, h, hf => fun b hb => by
    obtain ⟨h1, h2, h3⟩ := h b hb
    exact ⟨Nat.lt_of_lt_of_le h1 hs, fun j hj => by rw [cell?_same (hf b hb)]; exact h2 j hj, fun ho => by rw [hf b hb]; exact h3 ho⟩
  | .gone, _, _, _ => trivial
  | .mem _ _, .val _, h, _ => h.elim
  | .mp _ _ _ _ _, .val _, h, _ => h.elim
  | .mpl _ _ _ _ _ _, .val _, h, _ => h.elim
  | .itr _ _ _ _ _, .val _, h, _ => h.elim
  | .vec _ _ _ _, .blk _, h, _ => h.elim
theorem Ob.foot_lt {β : Bm} {w : World} : ∀ {o : Ob} {p : Pl}, o.ok β w p → o ≠ .gone → ∀ b, o.foot p b → b < w.heap.size
  | .mem own segs, .blk b, ⟨h1, _⟩, _, b', hb => by cases hb; exact h1
  | .mp _ _ _ _ _, .blk b, ⟨h1, _⟩, _, b', hb => by cases hb; exact h1
  | .vec own e n cols, .val x, ⟨_, h1⟩, _, b', hb => by
    rcases h1 with ⟨c, rfl, _⟩ | ⟨b, off, cap, rfl, k1, _⟩
    · cases hb
    · cases hb; exact k1
  | .mpl _ _ _ _ _ _, .blk b, ⟨h1, _⟩, _, b', hb => by cases hb; exact h1
  | .itr _ _ _ _ _, .blk b, ⟨h1, _⟩, _, b', hb => by cases hb; exact h1
  | .mpl _ _ _ _ _ _, .val _, h, _, _, _ => h.elim
  | .itr _ _ _ _ _, .val _, h, _, _, _ => h.elim
  | .rof _ _ _ _, _, h, _, b', hb => (h b' hb).1
  | .fam _ _ _ _ dom _, _, h, _, b', hb => (h b' hb).1
  | .gone, _, _, h, _, _ => absurd rfl h
  | .mem _ _, .val _, h, _, _, _ => h.elim
  | .mp _ _ _ _ _, .val _, h, _, _, _ => h.elim
  | .vec _ _ _ _, .blk _, h, _, _, _ => h.elim

abbrev S := SS V (Option Ob)
structure Cx where
  G : List (Nat × List L)
  n : Nat
structure Dx where
  B : Nat
  w0 : World
  b0 : Bm
  F : Nat → Prop
structure Chg (D : Dx) (w : World) : Prop where
  os : w.os = D.w0.os
  tape : w.tape = D.w0.tape
  output : w.output = D.w0.output
  size : D.w0.heap.size ≤ w.heap.size
  base : D.B ≤ D.w0.heap.size
  block : ∀ k, k < D.B → ¬ D.F k → w.heap[k]? = D.w0.heap[k]?
def Dx.may (D : Dx) (o : Ob) (p : Pl) : Prop := ∀ b, o.foot p b → D.B ≤ b ∨ D.F b

structure RepB (X : Cx) (D : Dx) (β : Bm) (s : S) (a : Act) (w : World) : Prop where
  size : a.tmps.size = X.n
  tmps : ∀ t, (s.tmp t).rel β (a.tmps.getD t undef)
  defers : a.defers = []
  mem : ∀ id o, s.blk id = some o → ∃ p, β id = some p ∧ o.ok β w p ∧ (o.own = true → D.may o p)
  dom : ∀ id p, β id = some p → ∃ o, s.blk id = some o
  inj : ∀ id id' o o' p p' b, s.blk id = some o → s.blk id' = some o' → o.own = true → o' ≠ .gone → β id = some p → β id' = some p' → o.foot p b → o'.foot p' b → id = id'
  glob : ∀ i g, X.G[i]? = some g → β i = some (.blk g.1) ∧ g.1 < D.B ∧ ¬ D.F g.1 ∧ segsOk (fun _ => none) w g.1 0 [.cells g.2]
def Rep (X : Cx) (D : Dx) (s : S) (a : Act) (w : World) : Prop := Chg D w ∧ ∃ β, D.b0.le β ∧ RepB X D β s a w

def undefV : V := .val (.one (.cst undef))
theorem undefV_ok (β : Bm) : undefV.rel β undef := rfl
theorem Bm.le_refl (β : Bm) : β.le β := fun _ _ h => h
theorem Bm.le_trans {a b c : Bm} (h : a.le b) (h' : b.le c) : a.le c := fun i p hp => h' i p (h i p hp)

def wrT (t : Option Tmp) (v : V) : List (Nat × V) := match t with
  | some d => [(d, v)]
  | none => []
theorem upd_nil {α : Type} (f : Nat → α) : upd f (look []) = f := rfl
theorem upd_one {α : Type} (f : Nat → α) (i : Nat) (v : α) (j : Nat) : upd f (look [(i, v)]) j = if j = i then v else f j := by
  unfold upd look
  by_cases h : j = i
  · subst h; rw [Nat.beq_refl]; simp
  · have : Nat.beq i j = false := by
      cases hb : Nat.beq i j
      · rfl
      · exact absurd (Nat.eq_of_beq_eq_true hb).symm h
    simp [this, h, look]

theorem RepB.put {X : Cx} {D : Dx} {β : Bm} {s : S} {a : Act} {w : World} (h : RepB X D β s a w) {d : Option Tmp} (hd : ∀ t, d = some t → t < X.n) {v : V} {x : Value} (hv : v.rel β x) :
    RepB X D β ⟨upd s.tmp (look (wrT d v)), s.blk⟩ (a.put d x) w := by
  cases d with
  | none => exact h
  | some t =>
    have ht := hd t rfl
    refine { h with size := by simp [Act.put, h.size], tmps := fun u => ?_, defers := by simp [Act.put, h.defers] }
    simp only [wrT, upd_one, Act.put]
    split
    · rename_i e; subst e
      have : u < a.tmps.size := by rw [h.size]; exact ht
      simpa [Array.getD, this] using hv
    · rename_i e
      have := h.tmps u
      have e2 : (a.tmps.setIfInBounds t x).getD u undef = a.tmps.getD u undef := by
        simp [Array.getD_eq_getD_getElem?, Array.getElem?_setIfInBounds_ne (Ne.symm e)]
      rw [e2]; exact this

theorem segs_lt {β : Bm} {w : World} {b : Nat} {ls : List L} (_h : segsOk β w b 0 [.cells ls]) : True := trivial

theorem RepB.write {X : Cx} {D : Dx} {β : Bm} {s : S} {a : Act} {w w' : World} (h : RepB X D β s a w) {id : Nat} {o o' : Ob} {p : Pl} (hs : s.blk id = some o) (ho : o.own = true) (_ho' : o'.own = true) (hp : β id = some p)
    (hsz : w.heap.size ≤ w'.heap.size) (hk : ∀ k, k < w.heap.size → ¬ o.foot p k → w'.heap[k]? = w.heap[k]?) (hB : D.B ≤ w.heap.size) (hok : o'.ok β w' p) (hft : ∀ b, o'.foot p b → o.foot p b ∨ w.heap.size ≤ b) :
    RepB X D β ⟨s.tmp, upd s.blk (look [(id, some o')])⟩ a w' := by
  obtain ⟨p0, hp0, hok0, hm0⟩ := h.mem id o hs
  rw [hp] at hp0; cases hp0
  refine { h with mem := fun i q hq => ?_, dom := fun i q hq => ?_, inj := fun i i' q q' r r' b hq hq' how hng hr hr' hb hb' => ?_, glob := fun i g hg => ?_ }
  · simp only [upd_one] at hq
    split at hq
    · rename_i e; subst e; cases hq
      exact ⟨p, hp, hok, fun _ b hb => (hft b hb).elim (hm0 ho b) fun h => .inl (Nat.le_trans hB h)⟩
    · rename_i e
      obtain ⟨r, k1, k2, k3⟩ := h.mem i q hq
      refine ⟨r, k1, ?_, k3⟩
      by_cases hg : q = .gone
      · subst hg; exact trivial
      · refine Ob.ok_same (Bm.le_refl β) hsz k2 fun b hb => hk b (Ob.foot_lt k2 hg b hb) fun hf => ?_
        exact e (h.inj id i o q p r b hs hq ho hg hp k1 hf hb).symm
  · simp only [upd_one]
    split
    · exact ⟨_, rfl⟩
    · exact h.dom i q hq
  · simp only [upd_one] at hq hq'
    have old : ∀ j u r, s.blk j = some u → u ≠ .gone → β j = some r → ∀ b, u.foot r b → b < w.heap.size := fun j u r hu hg hr b hb => by
      obtain ⟨r', k1, k2, _⟩ := h.mem j u hu
      rw [hr] at k1; cases k1
      exact Ob.foot_lt k2 hg b hb
    by_cases e : i = id
    · by_cases e' : i' = id
      · rw [e, e']
      · subst e
        rw [if_pos rfl] at hq; cases hq
        rw [if_neg e'] at hq'
        rw [hp] at hr; cases hr
        rcases hft b hb with h1 | h1
        · exact h.inj i i' o q' p r' b hs hq' ho hng hp hr' h1 hb'
        · have := old i' q' r' hq' hng hr' b hb'; omega
    · rw [if_neg e] at hq
      by_cases e' : i' = id
      · subst e'
        rw [if_pos rfl] at hq'; cases hq'
        rw [hp] at hr'; cases hr'
        rcases hft b hb' with h1 | h1
        · exact h.inj i i' q o r p b hq hs how (fun e => by rw [e] at ho; cases ho) hr hp hb h1
        · have := old i q r hq (fun e => by rw [e] at how; cases how) hr b hb; omega
      · rw [if_neg e'] at hq'
        exact h.inj i i' q q' r r' b hq hq' how hng hr hr' hb hb'
  · obtain ⟨k1, k2, k3, k4⟩ := h.glob i g hg
    refine ⟨k1, k2, k3, segsOk_same (Bm.le_refl _) (hk g.1 (by omega) fun hf => ?_) k4⟩
    rcases hm0 ho g.1 hf with h1 | h1
    · omega
    · exact k3 h1

theorem RepB.later {X : Cx} {D : Dx} {β : Bm} {s : S} {a : Act} {w w' : World} (h : RepB X D β s a w) (hB : D.B ≤ w.heap.size) (hsz : w.heap.size ≤ w'.heap.size) (hk : ∀ k, k < w.heap.size → w'.heap[k]? = w.heap[k]?) : RepB X D β s a w' := by
  refine { h with mem := fun i q hq => ?_, glob := fun i g hg => ?_ }
  · obtain ⟨r, k1, k2, k3⟩ := h.mem i q hq
    refine ⟨r, k1, ?_, k3⟩
    by_cases hg : q = .gone
    · subst hg; exact trivial
    · exact Ob.ok_same (Bm.le_refl β) hsz k2 fun b hb => hk b (Ob.foot_lt k2 hg b hb)
  · obtain ⟨k1, k2, k3, k4⟩ := h.glob i g hg
    exact ⟨k1, k2, k3, segsOk_same (Bm.le_refl _) (hk g.1 (by omega)) k4⟩
theorem RepB.laterBut {X : Cx} {D : Dx} {β : Bm} {s : S} {a : Act} {w w' : World} (h : RepB X D β s a w) (hB : D.B ≤ w.heap.size) (hsz : w.heap.size ≤ w'.heap.size) (r : Option Nat) (hk : ∀ k, k < w.heap.size → some k ≠ r → w'.heap[k]? = w.heap[k]?)
    (hr : ∀ i q p b, s.blk i = some q → q ≠ .gone → β i = some p → q.foot p b → some b ≠ r) (hg : ∀ b, r = some b → D.B ≤ b ∨ D.F b) : RepB X D β s a w' := by
  refine { h with mem := fun i q hq => ?_, glob := fun i g hgi => ?_ }
  · obtain ⟨p, k1, k2, k3⟩ := h.mem i q hq
    refine ⟨p, k1, ?_, k3⟩
    by_cases hgn : q = .gone
    · subst hgn; exact trivial
    · exact Ob.ok_same (Bm.le_refl β) hsz k2 fun b hb => hk b (Ob.foot_lt k2 hgn b hb) (hr i q p b hq hgn k1 hb)
  · obtain ⟨k1, k2, k3, k4⟩ := h.glob i g hgi
    refine ⟨k1, k2, k3, segsOk_same (Bm.le_refl _) (hk g.1 (by omega) fun e => ?_) k4⟩
    rcases hg g.1 e.symm with h1 | h1
    · omega
    · exact k3 h1
theorem Chg.later {D : Dx} {w w' : World} (h : Chg D w) (h1 : w'.os = w.os) (h2 : w'.tape = w.tape) (h3 : w'.output = w.output) (hsz : w.heap.size ≤ w'.heap.size) (hk : ∀ k, k < D.B → ¬ D.F k → w'.heap[k]? = w.heap[k]?) : Chg D w' :=
  ⟨h1.trans h.os, h2.trans h.tape, h3.trans h.output, Nat.le_trans h.size hsz, h.base, fun k a b => (hk k a b).trans (h.block k a b)⟩
theorem Rep.drew {X : Cx} {D : Dx} {s : S} {a : Act} {w : World} (h : Rep X D s a w) : Rep X D s a { w with drawn := w.drawn + 1 } := by
  obtain ⟨h1, β, h2, h3⟩ := h
  exact ⟨h1.later rfl rfl rfl (Nat.le_refl _) (fun _ _ _ => rfl), β, h2, h3.later (Nat.le_trans h1.base h1.size) (Nat.le_refl _) (fun _ _ => rfl)⟩

theorem RepB.fresh {X : Cx} {D : Dx} {β : Bm} {s : S} {a : Act} {w : World} (h : RepB X D β s a w) {id : Nat} (hid : s.blk id = none) {o : Ob} {p : Pl} (_hB : D.B ≤ w.heap.size)
    (hnew : ∀ b, o.foot p b → (D.B ≤ b ∨ D.F b) ∧ ∀ i q r, s.blk i = some q → q ≠ .gone → β i = some r → ¬ q.foot r b) :
    let β' : Bm := fun i => if i = id then some p else β i
    (o.ok β' w p) → β.le β' ∧ RepB X D β' ⟨s.tmp, upd s.blk (look [(id, some o)])⟩ a w := by
  intro β' hok
  have hβid : β id = none := by
    cases hb : β id with
    | none => rfl
    | some q => obtain ⟨u, hu⟩ := h.dom id q hb; rw [hid] at hu; cases hu
  have hle : β.le β' := by
    intro i q hq
    have : i ≠ id := fun e => by rw [e, hβid] at hq; cases hq
    simp [β', this, hq]
  refine ⟨hle, ⟨h.size, fun t => V.rel_mono hle _ _ (h.tmps t), h.defers, fun i q hq => ?_, fun i q hq => ?_, fun i i' q q' r r' b hq hq' how hng hr hr' hb hb' => ?_, fun i g hg => ?_⟩⟩
  · simp only [upd_one] at hq
    split at hq
    · rename_i e; subst e; cases hq
      exact ⟨p, by simp [β'], hok, fun _ b hb => (hnew b hb).1⟩
    · obtain ⟨r, k1, k2, k3⟩ := h.mem i q hq
      exact ⟨r, hle _ _ k1, Ob.ok_same hle (Nat.le_refl _) k2 (fun _ _ => rfl), k3⟩
  · simp only [upd_one]
    split
    · exact ⟨_, rfl⟩
    · rename_i e
      simp only [β', if_neg e] at hq
      exact h.dom i q hq
  · simp only [upd_one] at hq hq'
    simp only [β'] at hr hr'
    split at hq <;> split at hq'
    · rename_i e1 e2; rw [e1, e2]
    · rename_i e1 e2
      cases hq
      rw [if_pos e1] at hr; cases hr
      rw [if_neg e2] at hr'
      exact absurd hb' ((hnew b hb).2 i' q' r' hq' hng hr')
    · rename_i e1 e2
      rw [if_neg e1] at hr
      cases hq'
      rw [if_pos e2] at hr'; cases hr'
      exact absurd hb ((hnew b hb').2 i q r hq (fun e => by rw [e] at how; cases how) hr)
    · rename_i e1 e2
      rw [if_neg e1] at hr; rw [if_neg e2] at hr'
      exact h.inj i i' q q' r r' b hq hq' how hng hr hr' hb hb'
  · obtain ⟨k1, k2, k3, k4⟩ := h.glob i g hg
    exact ⟨hle _ _ k1, k2, k3, k4⟩
theorem RepB.drop {X : Cx} {D : Dx} {β : Bm} {s : S} {a : Act} {w : World} (h : RepB X D β s a w) {id : Nat} {o : Ob} (hs : s.blk id = some o) : RepB X D β ⟨s.tmp, upd s.blk (look [(id, some .gone)])⟩ a w := by
  refine { h with mem := fun i q hq => ?_, dom := fun i q hq => ?_, inj := fun i i' q q' r r' b hq hq' how hng hr hr' hb hb' => ?_ }
  · simp only [upd_one] at hq
    split at hq
    · rename_i e; subst e; cases hq
      obtain ⟨p, k1, _⟩ := h.mem i o hs
      exact ⟨p, k1, trivial, fun h => by cases h⟩
    · exact h.mem i q hq
  · simp only [upd_one]
    split
    · exact ⟨_, rfl⟩
    · exact h.dom i q hq
  · simp only [upd_one] at hq hq'
    split at hq
    · cases hq; cases how
    · split at hq'
      · cases hq'; exact absurd rfl hng
      · exact h.inj i i' q q' r r' b hq hq' how hng hr hr' hb hb'
end Go.Proofs.YtpdijogpbnaplaaDoorHz
namespace Go.Proofs.YtpdijogpbnaplaaDoorHz
open Go Go.RowKit

def loadCell : List Seg → Nat → Option L
  | [], _ => none
  | .cells ls :: r, off => if Nat.blt off ls.length then ls[off]? else loadCell r (off - ls.length)
  | .arr n cols :: r, off => if Nat.blt off (n * cols.length) then (match cols[off % cols.length]? with
      | some c => some (c.at (off / cols.length))
      | none => none) else loadCell r (off - n * cols.length)
theorem loadCell_ok {β : Bm} {w : World} {b : Nat} : ∀ {segs : List Seg} {base off : Nat} {l : L}, segsOk β w b base segs → loadCell segs off = some l → ∃ x, w.cell? ⟨b, base + off, none⟩ = some x ∧ l.rel β x
  | [], _, _, _, _, h => by cases h
  | .cells ls :: r, base, off, l, ⟨h1, h2⟩, h => by
    unfold loadCell at h
    split at h
    · exact h1 off l h
    · rename_i hn
      have hn : ls.length ≤ off := by
        rcases Nat.lt_or_ge off ls.length with h' | h'
        · exact absurd (by simpa using h') hn
        · exact h'
      obtain ⟨x, k1, k2⟩ := loadCell_ok h2 h
      exact ⟨x, by rw [show base + off = base + ls.length + (off - ls.length) by omega]; exact k1, k2⟩
  | .arr n cols :: r, base, off, l, ⟨h1, h2⟩, h => by
    unfold loadCell at h
    split at h
    · rename_i hlt
      have hlt : off < n * cols.length := by simpa using hlt
      split at h
      · rename_i c hc
        cases h
        have hpos : 0 < cols.length := by
          rcases Nat.eq_zero_or_pos cols.length with h0 | h0
          · rw [h0] at hlt; simp at hlt
          · exact h0
        obtain ⟨x, k1, k2⟩ := h1 (off / cols.length) (Nat.div_lt_of_lt_mul (by rw [Nat.mul_comm]; exact hlt)) _ c hc
        refine ⟨x, ?_, (c.at_rel _ β x).2 k2⟩
        have e : base + off = base + off / cols.length * cols.length + off % cols.length := by
          have := Nat.div_add_mod off cols.length
          rw [Nat.mul_comm] at this; omega
        rw [e]; exact k1
      · cases h
    · rename_i hn
      have hn : n * cols.length ≤ off := by
        rcases Nat.lt_or_ge off (n * cols.length) with h' | h'
        · exact absurd (by simpa using h') hn
        · exact h'
      obtain ⟨x, k1, k2⟩ := loadCell_ok h2 h
      exact ⟨x, by rw [show base + off = base + n * cols.length + (off - n * cols.length) by omega]; exact k1, k2⟩
def loadN (segs : List Seg) (off : Nat) : Nat → Option (List L)
  | 0 => some []
  | n + 1 => match loadCell segs off, loadN segs (off + 1) n with
    | some l, some ls => some (l :: ls)
    | _, _ => none
theorem addr_add (b off n : Nat) : (⟨b, off, none⟩ : Addr).add n = ⟨b, off + n, none⟩ := by unfold Addr.add; split <;> simp_all
theorem loadRun {P : Program} {β : Bm} {w : World} {b : Nat} : ∀ (n off i : Nat) (ls : List L) (acc : Array Value) (accL : List L),
    ls.length = n → (∀ j l, ls[j]? = some l → ∃ x, w.cell? ⟨b, off + i + j, none⟩ = some x ∧ l.rel β x) → All2 (L.rel β) accL acc.toList →
    ∃ vs : Array Value, (loadCellsFrom ⟨b, off, none⟩ i n acc).run P w = .ok vs w ∧ All2 (L.rel β) (accL ++ ls) vs.toList
  | 0, off, i, ls, acc, accL, hl, _, h => by
    have : ls = [] := by cases ls with | nil => rfl | cons _ _ => simp at hl
    subst this
    exact ⟨acc, rfl, by simpa using h⟩
  | n + 1, off, i, ls, acc, accL, hl, hc, h => by
    cases ls with
    | nil => simp at hl
    | cons l ls =>
      obtain ⟨x, hx, hr⟩ := hc 0 l rfl
      obtain ⟨vs, r1, r2⟩ := loadRun (P := P) (β := β) (w := w) (b := b) n off (i + 1) ls (acc.push x) (accL ++ [l]) (by simpa using hl)
        (fun j l' hl' => by rw [show off + (i + 1) + j = off + i + (j + 1) by omega]; exact hc (j + 1) l' (by simpa using hl')) (by rw [Array.toList_push]; exact h.append ⟨hr, trivial⟩)
      refine ⟨vs, ?_, by simpa using r2⟩
      unfold loadCellsFrom
      simp only [Nat.add_zero] at hx
      simp only [Sem.run_bind, addr_add, run_load, hx, Result.andThen_ok]
      exact r1
theorem loadN_get {segs : List Seg} : ∀ {n off : Nat} {ls : List L}, loadN segs off n = some ls → ls.length = n ∧ ∀ j l, ls[j]? = some l → loadCell segs (off + j) = some l
  | 0, off, ls, h => by simp [loadN] at h; subst h; exact ⟨rfl, fun j l hl => by simp at hl⟩
  | n + 1, off, ls, h => by
    unfold loadN at h
    split at h
    · rename_i l ls' h1 h2
      cases h
      obtain ⟨k1, k2⟩ := loadN_get h2
      refine ⟨by simp [k1], fun j l' hl' => ?_⟩
      cases j with
      | zero => simp at hl'; subst hl'; exact h1
      | succ j => rw [show off + (j + 1) = off + 1 + j by omega]; exact k2 j l' (by simpa using hl')
    · cases h

structure Stored (w w' : World) (b off : Nat) (vs : List Value) : Prop where
  os : w'.os = w.os
  tape : w'.tape = w.tape
  output : w'.output = w.output
  drawn : w'.drawn = w.drawn
  size : w'.heap.size = w.heap.size
  other : ∀ k, k ≠ b → w'.heap[k]? = w.heap[k]?
  shape : ∀ cs ty fr, w.heap[b]? = some (.cells cs ty fr) → ∃ cs', w'.heap[b]? = some (.cells cs' ty fr) ∧ cs'.size = cs.size
  frozen : ∀ j, w'.frozen? ⟨b, j, none⟩ = w.frozen? ⟨b, j, none⟩
  hit : ∀ j v, vs[j]? = some v → w'.cell? ⟨b, off + j, none⟩ = some v
  miss : ∀ j, (j < off ∨ off + vs.length ≤ j) → w'.cell? ⟨b, j, none⟩ = w.cell? ⟨b, j, none⟩
theorem storeRun {P : Program} {b : Nat} : ∀ (vs : List Value) (off i : Nat) (w : World), (∀ v ∈ vs, v.oneCell' = true) → (∀ j, j < vs.length → ∃ x, w.cell? ⟨b, off + i + j, none⟩ = some x) → noFreeze w b →
    ∃ w', (storeCells ⟨b, off, none⟩ vs i).run P w = .ok () w' ∧ Stored w w' b (off + i) vs
  | [], off, i, w, _, _, _ => ⟨w, rfl, ⟨rfl, rfl, rfl, rfl, rfl, fun _ _ => rfl, fun cs ty fr h => ⟨cs, h, rfl⟩, fun _ => rfl, fun j v h => by simp at h, fun _ _ => rfl⟩⟩
  | v :: vs, off, i, w, hone, hc, hf => by
    obtain ⟨u, hu⟩ := hc 0 (by simp)
    simp only [Nat.add_zero] at hu
    have hcell : ∀ j, j ≠ off + i → (w.setCell ⟨b, off + i, none⟩ v).cell? ⟨b, j, none⟩ = w.cell? ⟨b, j, none⟩ := fun j hj => World.cell?_setCell_other w _ _ _ (by intro e0; simp at e0)
    obtain ⟨w', r1, r2⟩ := storeRun (P := P) (b := b) vs off (i + 1) (w.setCell ⟨b, off + i, none⟩ v) (fun v hv => hone v (by simp [hv]))
      (fun j hj => by
        obtain ⟨x, hx⟩ := hc (j + 1) (by simp; omega)
        exact ⟨x, by rw [hcell _ (by omega), show off + (i + 1) + j = off + i + (j + 1) by omega]; exact hx⟩)
      (fun j => by rw [World.frozen?_setCell]; exact hf j)
    refine ⟨w', ?_, r2.os, r2.tape, r2.output, r2.drawn, r2.size.trans (by simp [World.setCell]), fun k hk => (r2.other k hk).trans (Below.heap_setCell _ _ _ _ hk), fun cs ty fr h => ?_, fun j => (r2.frozen j).trans (World.frozen?_setCell _ _ _ _), fun j x hx => ?_, fun j hj => ?_⟩
    · unfold storeCells
      simp only [Sem.run_bind, addr_add]
      rw [run_store P w _ v _ (hone v (by simp))]
      rw [hu]
      simp only [hf (off + i), Bool.false_eq_true, if_false, Result.andThen_ok]
      exact r1
    · have : (w.setCell ⟨b, off + i, none⟩ v).heap[b]? = some (.cells (cs.setIfInBounds (off + i) v) ty fr) := by
        simp only [World.setCell, Array.getElem?_modify, if_true, h, Option.map_some]
        rfl
      obtain ⟨cs', k1, k2⟩ := r2.shape _ _ _ this
      exact ⟨cs', k1, by simpa using k2⟩
    · cases j with
      | zero =>
        simp only [List.getElem?_cons_zero, Option.some.injEq] at hx
        subst hx
        rw [Nat.add_zero, r2.miss _ (.inl (by omega))]
        exact World.cell?_setCell_same w ⟨b, off + i, none⟩ v hu
      | succ j =>
        rw [show off + i + (j + 1) = off + (i + 1) + j by omega]
        exact r2.hit j x (by simpa using hx)
    · simp only [List.length_cons] at hj
      rw [r2.miss j (by omega), hcell j (by omega)]

def nthI : List Int → Nat → Int
  | [], _ => 0
  | x :: _, 0 => x
  | _ :: r, i + 1 => nthI r i
def intsOf (k : IntKind) : List L → Option (List Int)
  | [] => some []
  | .int q e :: r => if kindEq k q then (match intsOf k r with | some l => some (e.v :: l) | none => none) else none
  | _ :: _ => none
theorem intsOf_ok {k : IntKind} : ∀ {ls : List L} {es : List Int}, intsOf k ls = some es → ∀ {i : Nat} {l : L}, ls[i]? = some l → ∀ {β : Bm} {x : Value}, l.rel β x → x = .int k (nthI es i)
  | [], _, _, i, l, hl, _, _, _ => by simp at hl
  | .int q e :: r, es, h, i, l, hl, β, x, hx => by
    unfold intsOf at h
    split at h
    · rename_i hk
      have := kindEq_eq hk
      subst this
      split at h
      · rename_i es' hr
        cases h
        cases i with
        | zero => simp at hl; subst hl; exact hx
        | succ i => exact intsOf_ok hr (by simpa using hl) hx
      · cases h
    · cases h
  | .bool _ :: _, _, h, _, _, _, _, _, _ => by simp [intsOf] at h
  | .ptr _ _ :: _, _, h, _, _, _, _, _, _ => by simp [intsOf] at h
  | .elt _ _ _ _ _ :: _, _, h, _, _, _, _, _, _ => by simp [intsOf] at h
  | .lel _ _ _ _ :: _, _, h, _, _, _, _, _, _ => by simp [intsOf] at h
  | .vec _ :: _, _, h, _, _, _, _, _, _ => by simp [intsOf] at h
  | .sub _ _ _ _ :: _, _, h, _, _, _, _, _, _ => by simp [intsOf] at h
  | .map _ :: _, _, h, _, _, _, _, _, _ => by simp [intsOf] at h
  | .fptr _ _ _ :: _, _, h, _, _, _, _, _, _ => by simp [intsOf] at h
  | .fsub _ _ _ _ :: _, _, h, _, _, _, _, _, _ => by simp [intsOf] at h
  | .clo _ _ :: _, _, h, _, _, _, _, _, _ => by simp [intsOf] at h
  | .ifp _ _ _ :: _, _, h, _, _, _, _, _, _ => by simp [intsOf] at h
  | .cst _ :: _, _, h, _, _, _, _, _, _ => by simp [intsOf] at h
  | .junk :: _, _, h, _, _, _, _, _, _ => by simp [intsOf] at h
def sameI (k : IntKind) : List L → Option Int
  | .int k' (.lit v) :: ls => if kindEq k k' && ls.all (fun l => match l with | .int q (.lit u) => kindEq k q && decide (u = v) | _ => false) then some v else none
  | _ => none
theorem sameI_ok {k : IntKind} {ls : List L} {v : Int} (h : sameI k ls = some v) {i : Nat} {l : L} (hl : ls[i]? = some l) {β : Bm} {x : Value} (hr : l.rel β x) : x = .int k v := by
  unfold sameI at h
  split at h
  · rename_i k' v' ls
    split at h
    · rename_i hc
      cases h
      simp only [Bool.and_eq_true, List.all_eq_true] at hc
      have hk := kindEq_eq hc.1
      subst hk
      cases i with
      | zero => simp at hl; subst hl; exact hr
      | succ i =>
        have hm : l ∈ ls := List.mem_of_getElem? (by simpa using hl)
        have := hc.2 l hm
        split at this
        · rename_i q u
          simp only [Bool.and_eq_true, decide_eq_true_eq] at this
          obtain ⟨h1, rfl⟩ := this
          have := kindEq_eq h1
          subst this
          exact hr
        · cases this
    · cases h
  · cases h
def constCol : Col → List L → Option Col
  | .ints k _, ls => (match sameI k ls with
    | some v => some (.ints k (fun _ => v))
    | none => (match intsOf k ls with | some es => some (.ints k (nthI es)) | none => none))
  | .bools _, .bool (.lit v) :: ls => if ls.all (fun l => match l with | .bool (.lit u) => u == v | _ => false) then some (.bools (fun _ => v)) else none
  | _, _ => none
theorem constCol_ok {c c' : Col} {ls : List L} (h : constCol c ls = some c') {i : Nat} {l : L} (hl : ls[i]? = some l) {β : Bm} {x : Value} (hr : l.rel β x) : c'.rel i x := by
  unfold constCol at h
  split at h
  · split at h
    · rename_i v hv
      cases h; exact sameI_ok hv hl hr
    · split at h
      · rename_i es he
        cases h; exact intsOf_ok he hl hr
      · cases h
  · rename_i g v ls
    split at h
    · rename_i hc
      cases h
      simp only [List.all_eq_true] at hc
      cases i with
      | zero => simp at hl; subst hl; exact hr
      | succ i =>
        have hm : l ∈ ls := List.mem_of_getElem? (by simpa using hl)
        have := hc l hm
        split at this
        · rename_i u
          simp only [beq_iff_eq] at this
          subst this
          exact hr
        · cases this
    · cases h
  · cases h
def everyN (stride : Nat) : Nat → List L → List L
  | 0, _ => []
  | n + 1, ls => match ls with
    | [] => []
    | l :: r => l :: everyN stride n (r.drop (stride - 1))
theorem everyN_get {stride : Nat} (hs : 0 < stride) : ∀ (n : Nat) (ls : List L) (i : Nat), i < n → i * stride < ls.length → (everyN stride n ls)[i]? = ls[i * stride]?
  | 0, _, _, h, _ => by omega
  | n + 1, [], i, _, h => by simp at h
  | n + 1, l :: r, 0, _, _ => by simp [everyN]
  | n + 1, l :: r, i + 1, h, hl => by
    simp only [everyN, List.getElem?_cons_succ]
    have e : (i + 1) * stride = i * stride + (stride - 1) + 1 := by rw [Nat.succ_mul]; omega
    rw [everyN_get hs n (r.drop (stride - 1)) i (by omega) (by rw [List.length_drop]; simp only [List.length_cons] at hl; omega), e]
    simp only [List.getElem?_drop, List.getElem?_cons_succ]
    rw [Nat.add_comm]
def constCols (n stride : Nat) : List Col → List L → Option (List Col)
  | [], _ => some []
  | c :: cs, ls => match constCol c (everyN stride n ls), constCols n stride cs (ls.drop 1) with
    | some c', some cs' => some (c' :: cs')
    | _, _ => none
theorem constCols_ok {n stride : Nat} (hs : 0 < stride) : ∀ {cols cols' : List Col} {ls : List L}, constCols n stride cols ls = some cols' → cols'.length = cols.length ∧ ∀ (j : Nat) (c : Col), cols'[j]? = some c → ∀ i, i < n → ∀ l, ls[i * stride + j]? = some l → ∀ β x, l.rel β x → c.rel i x
  | [], cols', ls, h => by simp [constCols] at h; subst h; exact ⟨rfl, fun j c hc => by simp at hc⟩
  | c0 :: cs, cols', ls, h => by
    unfold constCols at h
    split at h
    · rename_i c' cs' h1 h2
      cases h
      obtain ⟨k1, k2⟩ := constCols_ok hs h2
      refine ⟨by simp [k1], fun j c hc i hi l hl β x hr => ?_⟩
      cases j with
      | zero =>
        simp at hc; subst hc
        have hlt : i * stride < ls.length := by simpa using (List.getElem?_eq_some_iff.1 hl).1
        exact constCol_ok h1 (i := i) (by rw [everyN_get hs n ls i hi hlt]; simpa using hl) hr
      | succ j =>
        refine k2 j c (by simpa using hc) i hi l ?_ β x hr
        rw [List.getElem?_drop]
        rw [show 1 + (i * stride + j) = i * stride + (j + 1) by omega]; exact hl
    · cases h
end Go.Proofs.YtpdijogpbnaplaaDoorHz
namespace Go.Proofs.YtpdijogpbnaplaaDoorHz
open Go Go.RowKit

def setL (l : L) : Nat → List L → List L
  | _, [] => []
  | 0, _ :: r => l :: r
  | n + 1, x :: r => x :: setL l n r
theorem setL_eq (l : L) : ∀ (n : Nat) (cs : List L), setL l n cs = cs.set n l
  | _, [] => by simp [setL]
  | 0, _ :: _ => rfl
  | n + 1, x :: r => by simp [setL, setL_eq l n r]
def store1 : List Seg → Nat → L → Option (List Seg)
  | [], _, _ => none
  | .cells cs :: r, off, l => if Nat.blt off cs.length then some (.cells (setL l off cs) :: r) else (match store1 r (off - cs.length) l with | some r' => some (.cells cs :: r') | none => none)
  | .arr n cols :: r, off, l => if Nat.blt off (n * cols.length) then (match cols[off % cols.length]? with
      | some c => (match c.put (off / cols.length) l with | some c' => some (.arr n (cols.set (off % cols.length) c') :: r) | none => none)
      | none => none) else (match store1 r (off - n * cols.length) l with | some r' => some (.arr n cols :: r') | none => none)
def storeRow : List Seg → Nat → List L → Option (List Seg)
  | [], _, _ => none
  | .cells cs :: r, off, ls => if Nat.ble cs.length off then (match storeRow r (off - cs.length) ls with | some r' => some (.cells cs :: r') | none => none) else none
  | .arr n cols :: r, off, ls => if Nat.beq off 0 then (if Nat.beq ls.length (n * cols.length) && Nat.blt 0 cols.length then (match constCols n cols.length cols ls with | some cs' => some (.arr n cs' :: r) | none => none) else none)
      else if Nat.ble (n * cols.length) off then (match storeRow r (off - n * cols.length) ls with | some r' => some (.arr n cols :: r') | none => none) else none
def storeN : List Seg → Nat → List L → Option (List Seg)
  | segs, _, [] => some segs
  | segs, off, l :: ls => match store1 segs off l with
    | some s' => storeN s' (off + 1) ls
    | none => none
def storeS (segs : List Seg) (off : Nat) (ls : List L) : Option (List Seg) :=
  match storeRow segs off ls with
  | some s => some s
  | none => if Nat.blt ls.length 64 then storeN segs off ls else none
def storeElt : List Seg → Nat → Nat → Nat → Nat → L → Option (List Seg)
  | [], _, _, _, _, _ => none
  | .cells cs :: r, base, stride, i, off, l => if Nat.ble cs.length base then (match storeElt r (base - cs.length) stride i off l with | some r' => some (.cells cs :: r') | none => none) else none
  | .arr n cols :: r, base, stride, i, off, l => if Nat.beq base 0 then (if Nat.beq stride cols.length then (match cols[off]? with
      | some c => (match c.put i l with | some c' => some (.arr n (cols.set off c') :: r) | none => none)
      | none => none) else none)
    else if Nat.ble (n * cols.length) base then (match storeElt r (base - n * cols.length) stride i off l with | some r' => some (.arr n cols :: r') | none => none) else none
def rowAt : List Seg → Nat → Option (Nat × List Col)
  | [], _ => none
  | .cells cs :: r, base => if Nat.ble cs.length base then rowAt r (base - cs.length) else none
  | .arr n cols :: r, base => if Nat.beq base 0 then some (n, cols) else if Nat.ble (n * cols.length) base then rowAt r (base - n * cols.length) else none
theorem rowAt_ok {β : Bm} {w : World} {b : Nat} : ∀ {segs : List Seg} {off base : Nat} {p : Nat × List Col}, segsOk β w b off segs → rowAt segs base = some p → rowOk w b (off + base) p.1 p.2
  | [], _, _, _, _, h => by cases h
  | .cells cs :: r, off, base, p, ⟨_, h2⟩, h => by
    unfold rowAt at h
    split at h
    · rename_i hb
      have := Nat.le_of_ble_eq_true hb
      have := rowAt_ok h2 h
      rwa [show off + cs.length + (base - cs.length) = off + base by omega] at this
    · cases h
  | .arr n cols :: r, off, base, p, ⟨h1, h2⟩, h => by
    unfold rowAt at h
    split at h
    · rename_i hb
      have := Nat.eq_of_beq_eq_true hb
      subst this
      cases h; exact h1
    · split at h
      · rename_i hb
        have := Nat.le_of_ble_eq_true hb
        have := rowAt_ok h2 h
        rwa [show off + n * cols.length + (base - n * cols.length) = off + base by omega] at this
      · cases h

def segsSize : List Seg → Nat
  | [] => 0
  | .cells cs :: r => cs.length + segsSize r
  | .arr n cols :: r => n * cols.length + segsSize r

theorem mulDiv {i n k : Nat} (h : i < n * k) : i / k < n ∧ 0 < k := by
  have hk : 0 < k := by
    rcases Nat.eq_zero_or_pos k with h0 | h0
    · rw [h0] at h; simp at h
    · exact h0
  exact ⟨Nat.div_lt_of_lt_mul (by rw [Nat.mul_comm]; exact h), hk⟩
theorem place_inj {k i j i' j' : Nat} (hj : j < k) (hj' : j' < k) (h : i * k + j = i' * k + j') : i = i' ∧ j = j' := by
  have h1 : (i * k + j) / k = i := by rw [Nat.mul_comm, Nat.mul_add_div (by omega), Nat.div_eq_of_lt hj]; omega
  have h2 : (i' * k + j') / k = i' := by rw [Nat.mul_comm, Nat.mul_add_div (by omega), Nat.div_eq_of_lt hj']; omega
  rw [h] at h1
  have : i = i' := by omega
  subst this
  omega
theorem rowOk_put {w w' : World} {b off n : Nat} {cols : List Col} (h : rowOk w b off n cols) {i j : Nat} {c c' : Col} {l : L} {β : Bm} {v : Value} (hc : cols[j]? = some c) (hp : c.put i l = some c') (hr : l.rel β v)
    (hit : i < n → w'.cell? ⟨b, off + i * cols.length + j, none⟩ = some v) (miss : ∀ m, m ≠ off + i * cols.length + j → w'.cell? ⟨b, m, none⟩ = w.cell? ⟨b, m, none⟩) : rowOk w' b off n (cols.set j c') := by
  have hjl : j < cols.length := (List.getElem?_eq_some_iff.1 hc).1
  intro i' hi' j' c2 hc2
  rw [List.length_set] at *
  by_cases e : j' = j
  · subst e
    rw [List.getElem?_set_self hjl] at hc2
    cases hc2
    by_cases e2 : i' = i
    · subst e2
      exact ⟨v, hit hi', Col.put_same hp hr⟩
    · obtain ⟨x, k1, k2⟩ := h i' hi' j' c hc
      exact ⟨x, by rw [miss _ (fun e3 => e2 (place_inj (i := i') (i' := i) hjl hjl (by omega)).1)]; exact k1, Col.put_other hp e2 k2⟩
  · rw [List.getElem?_set_ne (Ne.symm e)] at hc2
    have hjl' : j' < cols.length := (List.getElem?_eq_some_iff.1 hc2).1
    obtain ⟨x, k1, k2⟩ := h i' hi' j' c2 hc2
    exact ⟨x, by rw [miss _ (fun e3 => e (place_inj (i := i') (i' := i) hjl' hjl (by omega)).2)]; exact k1, k2⟩
theorem rowOk_miss {w w' : World} {b off n : Nat} {cols : List Col} (h : rowOk w b off n cols) (miss : ∀ m, off ≤ m → m < off + n * cols.length → w'.cell? ⟨b, m, none⟩ = w.cell? ⟨b, m, none⟩) : rowOk w' b off n cols := by
  intro i hi j c hc
  have hjl : j < cols.length := (List.getElem?_eq_some_iff.1 hc).1
  obtain ⟨x, k1, k2⟩ := h i hi j c hc
  refine ⟨x, ?_, k2⟩
  rw [miss _ (by omega) ?_]; exact k1
  have : (i + 1) * cols.length ≤ n * cols.length := Nat.mul_le_mul_right _ hi
  rw [Nat.succ_mul] at this
  omega
theorem segsOk_miss {β : Bm} {w w' : World} {b : Nat} : ∀ {segs : List Seg} {off : Nat}, segsOk β w b off segs → (∀ m, off ≤ m → m < off + segsSize segs → w'.cell? ⟨b, m, none⟩ = w.cell? ⟨b, m, none⟩) → segsOk β w' b off segs
  | [], _, _, _ => trivial
  | .cells cs :: r, off, ⟨h1, h2⟩, miss => by
    simp only [segsSize] at miss
    refine ⟨fun j l hl => ?_, segsOk_miss h2 (fun m h3 h4 => miss m (by omega) (by omega))⟩
    have := (List.getElem?_eq_some_iff.1 hl).1
    obtain ⟨x, k1, k2⟩ := h1 j l hl
    exact ⟨x, by rw [miss _ (by omega) (by omega)]; exact k1, k2⟩
  | .arr n cols :: r, off, ⟨h1, h2⟩, miss => by
    simp only [segsSize] at miss
    exact ⟨rowOk_miss h1 (fun m h3 h4 => miss m h3 (by omega)), segsOk_miss h2 (fun m h3 h4 => miss m (by omega) (by omega))⟩

theorem segs_has {β : Bm} {w : World} {b : Nat} : ∀ {segs : List Seg} {off : Nat}, segsOk β w b off segs → ∀ j, j < segsSize segs → ∃ x, w.cell? ⟨b, off + j, none⟩ = some x
  | [], _, _, j, h => by simp [segsSize] at h
  | .cells cs :: r, off, ⟨h1, h2⟩, j, h => by
    simp only [segsSize] at h
    rcases Nat.lt_or_ge j cs.length with hj | hj
    · obtain ⟨x, k1, _⟩ := h1 j _ (List.getElem?_eq_getElem hj); exact ⟨x, k1⟩
    · obtain ⟨x, k1⟩ := segs_has h2 (j - cs.length) (by omega)
      exact ⟨x, by rw [show off + j = off + cs.length + (j - cs.length) by omega]; exact k1⟩
  | .arr n cols :: r, off, ⟨h1, h2⟩, j, h => by
    simp only [segsSize] at h
    rcases Nat.lt_or_ge j (n * cols.length) with hj | hj
    · obtain ⟨hdiv, hpos⟩ := mulDiv hj
      obtain ⟨x, k1, _⟩ := h1 _ hdiv _ _ (List.getElem?_eq_getElem (Nat.mod_lt j hpos))
      have hdm : j / cols.length * cols.length + j % cols.length = j := by
        have := Nat.div_add_mod j cols.length
        rw [Nat.mul_comm] at this; exact this
      exact ⟨x, by rw [← hdm, ← Nat.add_assoc]; exact k1⟩
    · obtain ⟨x, k1⟩ := segs_has h2 (j - n * cols.length) (by omega)
      exact ⟨x, by rw [show off + j = off + n * cols.length + (j - n * cols.length) by omega]; exact k1⟩
def StoreOk (segs segs' : List Seg) (off : Nat) (ls : List L) : Prop :=
  off + ls.length ≤ segsSize segs ∧ ∀ (β : Bm) (w : World) (b base : Nat), segsOk β w b base segs →
    ∀ (w' : World) (vs : List Value), All2 (L.rel β) ls vs → (∀ j v, vs[j]? = some v → w'.cell? ⟨b, base + off + j, none⟩ = some v) → (∀ j, (j < base + off ∨ base + off + vs.length ≤ j) → w'.cell? ⟨b, j, none⟩ = w.cell? ⟨b, j, none⟩) →
      segsOk β w' b base segs'
theorem store1_ok : ∀ {segs segs' : List Seg} {off : Nat} {l : L}, store1 segs off l = some segs' → segsSize segs' = segsSize segs ∧ StoreOk segs segs' off [l]
  | [], _, _, _, h => by cases h
  | .cells cs :: r, segs', off, l, h => by
    unfold store1 at h
    split at h
    · rename_i hlt
      have hlt : off < cs.length := by simpa using hlt
      cases h
      refine ⟨by simp [segsSize, setL_eq], by simp [segsSize]; omega, fun β w b base hs w' vs hv hit miss => ?_⟩
      · cases vs with
        | nil => exact hv.elim
        | cons v vs =>
          cases vs with
          | cons _ _ => exact hv.2.elim
          | nil =>
            refine ⟨fun j l' hl' => ?_, ?_⟩
            · rw [setL_eq, List.getElem?_set] at hl'
              split at hl'
              · rename_i e; subst e
                cases hl'
                exact ⟨v, by simpa using hit 0 v rfl, hv.1⟩
              · rename_i e
                obtain ⟨x, k1, k2⟩ := hs.1 j l' hl'
                exact ⟨x, by rw [miss _ (by simp; omega)]; exact k1, k2⟩
            · rw [setL_eq, List.length_set]
              exact segsOk_miss hs.2 (fun m h3 _ => miss m (by simp; omega))
    · rename_i hn
      have hn : cs.length ≤ off := by
        rcases Nat.lt_or_ge off cs.length with h' | h'
        · exact absurd (by simpa using h') hn
        · exact h'
      split at h
      · rename_i r' hr
        cases h
        obtain ⟨k0, k1, k2⟩ := store1_ok hr
        refine ⟨by simp [segsSize, k0], by simp [segsSize] at *; omega, fun β w b base hs => ?_⟩
        have m2 := k2 β w b _ hs.2
        have e : base + cs.length + (off - cs.length) = base + off := by omega
        rw [e] at m2
        refine fun w' vs hv hit miss => ⟨fun j l' hl' => ?_, m2 w' vs hv hit miss⟩
        have := (List.getElem?_eq_some_iff.1 hl').1
        obtain ⟨x, p1, p2⟩ := hs.1 j l' hl'
        exact ⟨x, by rw [miss _ (by omega)]; exact p1, p2⟩
      · cases h
  | .arr n cols :: r, segs', off, l, h => by
    unfold store1 at h
    split at h
    · rename_i hlt
      have hlt : off < n * cols.length := by simpa using hlt
      obtain ⟨hdiv, hpos⟩ := mulDiv hlt
      have hmod := Nat.mod_lt off hpos
      have hdm : off / cols.length * cols.length + off % cols.length = off := by
        have := Nat.div_add_mod off cols.length
        rw [Nat.mul_comm] at this; exact this
      split at h
      · rename_i c hc
        split at h
        · rename_i c' hc'
          cases h
          refine ⟨by simp [segsSize], by simp [segsSize]; omega, fun β w b base hs w' vs hv hit miss => ?_⟩
          · cases vs with
            | nil => exact hv.elim
            | cons v vs =>
              cases vs with
              | cons _ _ => exact hv.2.elim
              | nil =>
                refine ⟨rowOk_put hs.1 hc hc' hv.1 (fun _ => ?_) (fun m hm => miss m (by simp; omega)), ?_⟩
                · rw [Nat.add_assoc, hdm]; simpa using hit 0 v rfl
                · rw [List.length_set]
                  exact segsOk_miss hs.2 (fun m h3 _ => miss m (by simp; omega))
        · cases h
      · cases h
    · rename_i hn
      have hn : n * cols.length ≤ off := by
        rcases Nat.lt_or_ge off (n * cols.length) with h' | h'
        · exact absurd (by simpa using h') hn
        · exact h'
      split at h
      · rename_i r' hr
        cases h
        obtain ⟨k0, k1, k2⟩ := store1_ok hr
        refine ⟨by simp [segsSize, k0], by simp [segsSize] at *; omega, fun β w b base hs => ?_⟩
        have m2 := k2 β w b _ hs.2
        have e : base + n * cols.length + (off - n * cols.length) = base + off := by omega
        rw [e] at m2
        exact fun w' vs hv hit miss => ⟨rowOk_miss hs.1 (fun m h3 h4 => miss m (by omega)), m2 w' vs hv hit miss⟩
      · cases h
theorem storeRow_ok : ∀ {segs segs' : List Seg} {off : Nat} {ls : List L}, storeRow segs off ls = some segs' → segsSize segs' = segsSize segs ∧ StoreOk segs segs' off ls
  | [], _, _, _, h => by cases h
  | .cells cs :: r, segs', off, ls, h => by
    unfold storeRow at h
    split at h
    · rename_i hn
      have hn := Nat.le_of_ble_eq_true hn
      split at h
      · rename_i r' hr
        cases h
        obtain ⟨k0, k1, k2⟩ := storeRow_ok hr
        refine ⟨by simp [segsSize, k0], by simp only [segsSize]; omega, fun β w b base hs => ?_⟩
        have m2 := k2 β w b _ hs.2
        have e : base + cs.length + (off - cs.length) = base + off := by omega
        rw [e] at m2
        refine fun w' vs hv hit miss => ⟨fun j l' hl' => ?_, m2 w' vs hv hit miss⟩
        have := (List.getElem?_eq_some_iff.1 hl').1
        obtain ⟨x, p1, p2⟩ := hs.1 j l' hl'
        exact ⟨x, by rw [miss _ (by omega)]; exact p1, p2⟩
      · cases h
    · cases h
  | .arr n cols :: r, segs', off, ls, h => by
    unfold storeRow at h
    split at h
    · rename_i h0
      have := Nat.eq_of_beq_eq_true h0
      subst this
      split at h
      · rename_i hl
        simp only [Bool.and_eq_true] at hl
        have hlen := Nat.eq_of_beq_eq_true hl.1
        have hpos : 0 < cols.length := by simpa using hl.2
        split at h
        · rename_i cs' hcs
          cases h
          obtain ⟨q1, q2⟩ := constCols_ok hpos hcs
          refine ⟨by simp [segsSize, q1], by simp only [segsSize]; omega, fun β w b base hs w' vs hv hit miss => ?_⟩
          · have hvl := hv.length
            refine ⟨fun i hi j c hc => ?_, ?_⟩
            · have hjl : j < cols.length := by rw [← q1]; exact (List.getElem?_eq_some_iff.1 hc).1
              have hin : i * cols.length + j < ls.length := by
                have : (i + 1) * cols.length ≤ n * cols.length := Nat.mul_le_mul_right _ hi
                rw [Nat.succ_mul] at this; omega
              obtain ⟨x, k1, k2⟩ := hv.get _ _ (List.getElem?_eq_getElem hin)
              refine ⟨x, ?_, q2 j c hc i hi _ (List.getElem?_eq_getElem hin) β x k2⟩
              rw [q1, Nat.add_assoc]
              simpa using hit _ x k1
            · rw [q1]
              exact segsOk_miss hs.2 (fun m h3 _ => miss m (by omega))
        · cases h
      · cases h
    · split at h
      · rename_i hn
        have hn := Nat.le_of_ble_eq_true hn
        split at h
        · rename_i r' hr
          cases h
          obtain ⟨k0, k1, k2⟩ := storeRow_ok hr
          refine ⟨by simp [segsSize, k0], by simp only [segsSize]; omega, fun β w b base hs => ?_⟩
          have m2 := k2 β w b _ hs.2
          have e : base + n * cols.length + (off - n * cols.length) = base + off := by omega
          rw [e] at m2
          exact fun w' vs hv hit miss => ⟨rowOk_miss hs.1 (fun m h3 h4 => miss m (by omega)), m2 w' vs hv hit miss⟩
        · cases h
      · cases h
theorem storeN_ok : ∀ {ls : List L} {segs segs' : List Seg} {off : Nat}, storeN segs off ls = some segs' → off ≤ segsSize segs → segsSize segs' = segsSize segs ∧ StoreOk segs segs' off ls
  | [], segs, segs', off, h, ho => by
    cases h
    refine ⟨rfl, by simpa using ho, fun β w b base hs w' vs hv hit miss => ?_⟩
    cases vs with
    | cons _ _ => exact hv.elim
    | nil => exact segsOk_miss hs (fun m _ _ => miss m (by simp; omega))
  | l :: ls, segs, segs', off, h, ho => by
    unfold storeN at h
    split at h
    · rename_i s1 h1
      obtain ⟨a0, a1, a2⟩ := store1_ok h1
      simp only [List.length_cons, List.length_nil] at a1
      obtain ⟨b0, b1, b2⟩ := storeN_ok h (by omega)
      refine ⟨b0.trans a0, by simp only [List.length_cons]; omega, fun β w b base hs w' vs hv hit miss => ?_⟩
      obtain ⟨x0, hx0⟩ := segs_has hs off (by omega)
      cases vs with
      | nil => exact hv.elim
      | cons v vs =>
        have s : segsOk β (w.setCell ⟨b, base + off, none⟩ v) b base s1 :=
          a2 β w b base hs _ [v] ⟨hv.1, trivial⟩ (fun j u hu => by
            cases j with
            | zero => simp at hu; subst hu; exact World.cell?_setCell_same w ⟨b, base + off, none⟩ v hx0
            | succ j => simp at hu) (fun j hj => World.cell?_setCell_other w _ _ _ (by simp at hj ⊢; omega))
        refine b2 β _ b base s w' vs hv.2 (fun j u hu => ?_) (fun j hj => ?_)
        · rw [show base + (off + 1) + j = base + off + (j + 1) by omega]; exact hit (j + 1) u (by simpa using hu)
        · by_cases e : j = base + off
          · subst e
            have := hit 0 v rfl
            rw [Nat.add_zero] at this
            rw [this]
            exact (World.cell?_setCell_same w ⟨b, base + off, none⟩ v hx0).symm
          · rw [World.cell?_setCell_other w _ _ _ (by intro e0; simp at e0)]
            exact miss j (by simp only [List.length_cons]; omega)
    · cases h
theorem storeS_ok {segs segs' : List Seg} {off : Nat} {ls : List L} (h : storeS segs off ls = some segs') (ho : off ≤ segsSize segs) : segsSize segs' = segsSize segs ∧ StoreOk segs segs' off ls := by
  unfold storeS at h
  split at h
  · rename_i s hs; cases h; exact storeRow_ok hs
  · split at h
    · exact storeN_ok h ho
    · cases h
theorem storeElt_ok : ∀ {segs segs' : List Seg} {at0 stride i off : Nat} {l : L}, storeElt segs at0 stride i off l = some segs' → segsSize segs' = segsSize segs ∧ ∃ n cols, rowAt segs at0 = some (n, cols) ∧ stride = cols.length ∧ off < cols.length ∧
    (i < n → StoreOk segs segs' (at0 + i * stride + off) [l])
  | [], _, _, _, _, _, _, h => by cases h
  | .cells cs :: r, segs', at0, stride, i, off, l, h => by
    unfold storeElt at h
    split at h
    · rename_i hn
      split at h
      · rename_i r' hr
        cases h
        obtain ⟨k0, n, cols, k1, k2, k3, k4⟩ := storeElt_ok hr
        refine ⟨by simp [segsSize, k0], n, cols, by unfold rowAt; rw [if_pos hn]; exact k1, k2, k3, fun hi => ?_⟩
        obtain ⟨p1, p2⟩ := k4 hi
        have hn := Nat.le_of_ble_eq_true hn
        simp only [List.length_cons, List.length_nil] at p1
        refine ⟨by simp only [segsSize, List.length_cons, List.length_nil]; omega, fun β w b base hs w' vs hv hit miss => ⟨fun j l' hl' => ?_, ?_⟩⟩
        · have := (List.getElem?_eq_some_iff.1 hl').1
          obtain ⟨x, q1, q2⟩ := hs.1 j l' hl'
          exact ⟨x, by rw [miss _ (by omega)]; exact q1, q2⟩
        · refine p2 β w b _ hs.2 w' vs hv (fun j v hj => ?_) (fun j hj => miss j (by omega))
          rw [show base + cs.length + (at0 - cs.length + i * stride + off) + j = base + (at0 + i * stride + off) + j by omega]; exact hit j v hj
      · cases h
    · cases h
  | .arr m cs :: r, segs', at0, stride, i, off, l, h => by
    unfold storeElt at h
    split at h
    · rename_i h0
      have e0 := Nat.eq_of_beq_eq_true h0
      subst e0
      split at h
      · rename_i hs0
        have e1 := Nat.eq_of_beq_eq_true hs0
        subst e1
        split at h
        · rename_i c hc
          split at h
          · rename_i c' hc'
            cases h
            have hol : off < cs.length := (List.getElem?_eq_some_iff.1 hc).1
            refine ⟨by simp [segsSize], m, cs, by unfold rowAt; rfl, rfl, hol, fun hi => ?_⟩
            have hb : i * cs.length + off < m * cs.length := by
              have : (i + 1) * cs.length ≤ m * cs.length := Nat.mul_le_mul_right _ hi
              rw [Nat.succ_mul] at this; omega
            refine ⟨by simp only [segsSize, List.length_cons, List.length_nil]; omega, fun β w b base hs w' vs hv hit miss => ?_⟩
            cases vs with
            | nil => exact hv.elim
            | cons v vs =>
              cases vs with
              | cons _ _ => exact hv.2.elim
              | nil =>
                refine ⟨rowOk_put hs.1 hc hc' hv.1 (fun _ => ?_) (fun q hq => miss q (by simp; omega)), ?_⟩
                · have := hit 0 v rfl
                  rw [show base + (0 + i * cs.length + off) + 0 = base + i * cs.length + off by omega] at this
                  exact this
                · rw [List.length_set]
                  exact segsOk_miss hs.2 (fun q h3 _ => miss q (by simp; omega))
          · cases h
        · cases h
      · cases h
    · rename_i h0
      split at h
      · rename_i hn
        split at h
        · rename_i r' hr
          cases h
          obtain ⟨k0, n, cols, k1, k2, k3, k4⟩ := storeElt_ok hr
          refine ⟨by simp [segsSize, k0], n, cols, by unfold rowAt; rw [if_neg h0, if_pos hn]; exact k1, k2, k3, fun hi => ?_⟩
          obtain ⟨p1, p2⟩ := k4 hi
          have hn := Nat.le_of_ble_eq_true hn
          simp only [List.length_cons, List.length_nil] at p1
          refine ⟨by simp only [segsSize, List.length_cons, List.length_nil]; omega, fun β w b base hs w' vs hv hit miss => ⟨rowOk_miss hs.1 (fun q h3 h4 => miss q (by omega)), ?_⟩⟩
          refine p2 β w b _ hs.2 w' vs hv (fun j v hj => ?_) (fun j hj => miss j (by omega))
          rw [show base + m * cs.length + (at0 - m * cs.length + i * stride + off) + j = base + (at0 + i * stride + off) + j by omega]; exact hit j v hj
        · cases h
      · cases h

theorem storeElt_row : ∀ {segs segs' : List Seg} {at0 stride i off : Nat} {l : L}, storeElt segs at0 stride i off l = some segs' → ∃ n cols cols', rowAt segs at0 = some (n, cols) ∧ rowAt segs' at0 = some (n, cols')
  | [], _, _, _, _, _, _, h => by cases h
  | .cells cs :: r, segs', at0, stride, i, off, l, h => by
    unfold storeElt at h
    split at h
    · rename_i hn
      split at h
      · rename_i r' hr
        cases h
        obtain ⟨n, cols, cols', k1, k2⟩ := storeElt_row hr
        exact ⟨n, cols, cols', by unfold rowAt; rw [if_pos hn]; exact k1, by unfold rowAt; rw [if_pos hn]; exact k2⟩
      · cases h
    · cases h
  | .arr m cs :: r, segs', at0, stride, i, off, l, h => by
    unfold storeElt at h
    split at h
    · rename_i h0
      split at h
      · split at h
        · rename_i c hc
          split at h
          · rename_i c' hc'
            cases h
            exact ⟨m, cs, _, by unfold rowAt; rw [if_pos h0], by unfold rowAt; rw [if_pos h0]⟩
          · cases h
        · cases h
      · cases h
    · rename_i h0
      split at h
      · rename_i hn
        split at h
        · rename_i r' hr
          cases h
          obtain ⟨n, cols, cols', k1, k2⟩ := storeElt_row hr
          exact ⟨n, cols, cols', by unfold rowAt; rw [if_neg h0, if_pos hn]; exact k1, by unfold rowAt; rw [if_neg h0, if_pos hn]; exact k2⟩
        · cases h
      · cases h
def storeEltN : List Seg → Nat → Nat → Nat → Nat → List L → Option (List Seg)
  | segs, _, _, _, _, [] => some segs
  | segs, base, stride, i, off, l :: ls => match storeElt segs base stride i off l with
    | some s => storeEltN s base stride i (off + 1) ls
    | none => none
theorem storeEltN_ok : ∀ {ls : List L} {segs segs' : List Seg} {base stride i off : Nat} {l : L}, storeEltN segs base stride i off (l :: ls) = some segs' → (∀ n cols, rowAt segs base = some (n, cols) → i < n) →
    segsSize segs' = segsSize segs ∧ StoreOk segs segs' (base + i * stride + off) (l :: ls)
  | ls, segs, segs', base, stride, i, off, l, h, hi => by
    unfold storeEltN at h
    split at h
    · rename_i s1 h1
      obtain ⟨a0, n, cols, a1, a2, a3, a4⟩ := storeElt_ok h1
      obtain ⟨a5, a6⟩ := a4 (hi n cols a1)
      simp only [List.length_cons, List.length_nil] at a5
      cases ls with
      | nil =>
        cases h
        exact ⟨a0, by simp only [List.length_cons, List.length_nil]; omega, a6⟩
      | cons l2 ls =>
        obtain ⟨n1, c1, c2, r1, r2⟩ := storeElt_row h1
        rw [a1] at r1; cases r1
        obtain ⟨b0, b1, b2⟩ := storeEltN_ok (ls := ls) h (fun n' cols' hr => by rw [r2] at hr; cases hr; exact hi n cols a1)
        have eo : base + i * stride + (off + 1) = base + i * stride + off + 1 := by omega
        rw [eo] at b1 b2
        generalize base + i * stride + off = o at *
        refine ⟨b0.trans a0, by simp only [List.length_cons] at b1 ⊢; omega, fun β w b bs hs w' vs hv hit miss => ?_⟩
        obtain ⟨x0, hx0⟩ := segs_has hs o (by omega)
        cases vs with
        | nil => exact hv.elim
        | cons v vs =>
          have s : segsOk β (w.setCell ⟨b, bs + o, none⟩ v) b bs s1 :=
            a6 β w b bs hs _ [v] ⟨hv.1, trivial⟩ (fun j u hu => by
              cases j with
              | zero => simp at hu; subst hu; exact World.cell?_setCell_same w ⟨b, bs + o, none⟩ v hx0
              | succ j => simp at hu) (fun j hj => World.cell?_setCell_other w _ _ _ (by simp at hj ⊢; omega))
          refine b2 β _ b bs s w' vs hv.2 (fun j u hu => ?_) (fun j hj => ?_)
          · rw [show bs + (o + 1) + j = bs + o + (j + 1) by omega]; exact hit (j + 1) u (by simpa using hu)
          · by_cases e : j = bs + o
            · subst e
              have := hit 0 v rfl
              rw [Nat.add_zero] at this
              rw [this]
              exact (World.cell?_setCell_same w ⟨b, bs + o, none⟩ v hx0).symm
            · rw [World.cell?_setCell_other w _ _ _ (by intro e0; simp at e0)]
              exact miss j (by simp only [List.length_cons]; omega)
    · cases h

def putCols (i : Nat) : List Col → Nat → List L → Option (List Col)
  | cols, _, [] => some cols
  | cols, off, l :: ls => match cols[off]? with
    | some c => (match c.put i l with | some c' => putCols i (cols.set off c') (off + 1) ls | none => none)
    | none => none
theorem putCols_ok : ∀ {ls : List L} {cols cols' : List Col} {i off n : Nat}, putCols i cols off ls = some cols' → cols'.length = cols.length ∧ (ls ≠ [] → off + ls.length ≤ cols.length) ∧
    ∀ (β : Bm) (w : World) (b base : Nat), i < n → rowOk w b base n cols → ∀ (w' : World) (vs : List Value), All2 (L.rel β) ls vs → (∀ j v, vs[j]? = some v → w'.cell? ⟨b, base + i * cols.length + off + j, none⟩ = some v) →
      (∀ j, (j < base + i * cols.length + off ∨ base + i * cols.length + off + vs.length ≤ j) → w'.cell? ⟨b, j, none⟩ = w.cell? ⟨b, j, none⟩) → rowOk w' b base n cols'
  | [], cols, cols', i, off, n, h => by
    cases h
    refine ⟨rfl, fun h => absurd rfl h, fun β w b base hi hr w' vs hv hit miss => ?_⟩
    cases vs with
    | cons _ _ => exact hv.elim
    | nil => exact rowOk_miss hr (fun m _ _ => miss m (by simp; omega))
  | l :: ls, cols, cols', i, off, n, h => by
    unfold putCols at h
    split at h
    · rename_i c hc
      split at h
      · rename_i c' hc'
        have hol : off < cols.length := (List.getElem?_eq_some_iff.1 hc).1
        obtain ⟨k1, k2, k3⟩ := putCols_ok (n := n) h
        rw [List.length_set] at k1 k2 k3
        refine ⟨k1, fun _ => ?_, fun β w b base hi hr w' vs hv hit miss => ?_⟩
        · cases ls with
          | nil => simp; omega
          | cons _ _ => have := k2 (by simp); simp only [List.length_cons] at this ⊢; omega
        · cases vs with
          | nil => exact hv.elim
          | cons v vs =>
            obtain ⟨x0, hx0, _⟩ := hr i hi off c hc
            refine k3 β (w.setCell ⟨b, base + i * cols.length + off, none⟩ v) b base hi (rowOk_put hr hc hc' hv.1 (fun _ => World.cell?_setCell_same w ⟨b, base + i * cols.length + off, none⟩ v hx0) (fun m hm => World.cell?_setCell_other w _ _ _ (by intro e0; simp at e0))) w' vs hv.2 (fun j u hu => ?_) (fun j hj => ?_)
            · rw [show base + i * cols.length + (off + 1) + j = base + i * cols.length + off + (j + 1) by omega]; exact hit (j + 1) u (by simpa using hu)
            · by_cases e : j = base + i * cols.length + off
              · subst e
                have := hit 0 v rfl
                rw [Nat.add_zero] at this
                rw [this]
                exact (World.cell?_setCell_same w ⟨b, base + i * cols.length + off, none⟩ v hx0).symm
              · rw [World.cell?_setCell_other w _ _ _ (by intro e0; simp at e0)]
                exact miss j (by simp only [List.length_cons]; omega)
      · cases h
    · cases h

inductive Lay where
  | one
  | arr (n : Nat) (cols : List Col)
def zeroCol (P : Program) (t : TypeId) : Option Col := match P.underlying t with
  | some .bool => some (.bools fun _ => false)
  | some (.int k) => some (.ints k fun _ => 0)
  | some (.slice _) => some (.fsubs noHint (fun _ => 0) (fun _ => 0) fun _ => 0)
  | _ => none
def zeroCols (P : Program) : List TypeId → Option (List Col)
  | [] => some []
  | t :: ts => match zeroCol P t, zeroCols P ts with
    | some c, some cs => some (c :: cs)
    | _, _ => none
def eltCols (P : Program) (t : TypeId) : Option (List Col) := match P.underlying t with
  | some (.struct fs) => zeroCols P (fs.toList.map (·.type))
  | _ => match zeroCol P t with
    | some c => some [c]
    | none => none
def layFs (f : TypeId → Option (List Lay)) : List Field → Option (List Lay)
  | [] => some []
  | g :: gs => match f g.type, layFs f gs with
    | some a, some b => some (a ++ b)
    | _, _ => none
def layOf (P : Program) : Nat → TypeId → Option (List Lay)
  | 0, _ => none
  | d + 1, t => match P.underlying t with
    | some (.struct fs) => layFs (layOf P d) fs.toList
    | some (.array n e) => if Nat.blt n 4 then (match layOf P d e with | some l => some ((List.replicate n l).flatten) | none => none) else (match eltCols P e with | some cs => some [.arr n cs] | none => none)
    | some _ => some [.one]
    | none => none
def mkSegs : List Lay → List L → Option (List Seg)
  | [], [] => some []
  | [], _ :: _ => none
  | .one :: _, [] => none
  | .one :: r, l :: ls => match mkSegs r ls with
    | some (.cells cs :: s) => some (.cells (l :: cs) :: s)
    | some s => some (.cells [l] :: s)
    | none => none
  | .arr n cols :: r, ls => if Nat.ble (n * cols.length) ls.length && Nat.blt 0 cols.length then (match constCols n cols.length cols (ls.take (n * cols.length)), mkSegs r (ls.drop (n * cols.length)) with
      | some cs, some s => some (.arr n cs :: s)
      | _, _ => none) else none
theorem mkSegs_ok {β : Bm} {w : World} {b : Nat} : ∀ {lay : List Lay} {ls : List L} {segs : List Seg} {vs : List Value} {off : Nat}, mkSegs lay ls = some segs → All2 (L.rel β) ls vs → (∀ j v, vs[j]? = some v → w.cell? ⟨b, off + j, none⟩ = some v) → segsOk β w b off segs
  | [], [], segs, vs, off, h, _, _ => by cases h; trivial
  | [], _ :: _, _, _, _, h, _, _ => by cases h
  | .one :: _, [], _, _, _, h, _, _ => by cases h
  | .one :: r, l :: ls, segs, [], off, h, hv, _ => hv.elim
  | .one :: r, l :: ls, segs, v :: vs, off, h, hv, hc => by
    have ih : ∀ s, mkSegs r ls = some s → segsOk β w b (off + 1) s := fun s hs => mkSegs_ok hs hv.2 (fun j u hu => by rw [show off + 1 + j = off + (j + 1) by omega]; exact hc (j + 1) u (by simpa using hu))
    have h0 := hc 0 v rfl
    unfold mkSegs at h
    split at h
    · rename_i cs s hs
      cases h
      have := ih _ hs
      refine ⟨fun j l' hl' => ?_, by rw [List.length_cons, show off + (cs.length + 1) = off + 1 + cs.length by omega]; exact this.2⟩
      cases j with
      | zero => simp at hl'; subst hl'; exact ⟨v, h0, hv.1⟩
      | succ j =>
        obtain ⟨x, k1, k2⟩ := this.1 j l' (by simpa using hl')
        exact ⟨x, by rw [show off + (j + 1) = off + 1 + j by omega]; exact k1, k2⟩
    · rename_i s hne hs
      cases h
      refine ⟨fun j l' hl' => ?_, ih _ hs⟩
      cases j with
      | zero => simp at hl'; subst hl'; exact ⟨v, h0, hv.1⟩
      | succ j => simp at hl'
    · cases h
  | .arr n cols :: r, ls, segs, vs, off, h, hv, hc => by
    unfold mkSegs at h
    split at h
    · rename_i hb
      simp only [Bool.and_eq_true] at hb
      have hle := Nat.le_of_ble_eq_true hb.1
      have hpos : 0 < cols.length := by simpa using hb.2
      split at h
      · rename_i cs s h1 h2
        cases h
        obtain ⟨q1, q2⟩ := constCols_ok hpos h1
        have hvl := hv.length
        refine ⟨fun i hi j c hcj => ?_, ?_⟩
        · have hjl : j < cols.length := by rw [← q1]; exact (List.getElem?_eq_some_iff.1 hcj).1
          have hin : i * cols.length + j < n * cols.length := by
            have : (i + 1) * cols.length ≤ n * cols.length := Nat.mul_le_mul_right _ hi
            rw [Nat.succ_mul] at this; omega
          obtain ⟨x, k1, k2⟩ := hv.get (i * cols.length + j) _ (List.getElem?_eq_getElem (by omega))
          refine ⟨x, ?_, q2 j c hcj i hi ls[i * cols.length + j] ?_ β x k2⟩
          · rw [q1, Nat.add_assoc]; exact hc _ x k1
          · rw [List.getElem?_take, if_pos hin]; exact List.getElem?_eq_getElem (by omega)
        · rw [q1]
          refine mkSegs_ok h2 (hv.drop _) (fun j u hu => ?_)
          rw [List.getElem?_drop] at hu
          rw [Nat.add_assoc]; exact hc _ u hu
      · cases h
    · cases h
end Go.Proofs.YtpdijogpbnaplaaDoorHz
namespace Go.Proofs.YtpdijogpbnaplaaDoorHz
open Go Go.RowKit

theorem findNow_int {kk key : IntKind} {k : Int} : ∀ (l : List MapEntry) (i : Nat), (∀ e ∈ l, ∃ q : Int, e.key = .int key q) →
    (Instr.findNow (.int kk) (.int key k) l i = some none ∧ ∀ e ∈ l, e.key ≠ .int key k) ∨
    ∃ j e, l[j]? = some e ∧ e.key = .int key k ∧ Instr.findNow (.int kk) (.int key k) l i = some (some (i + j, e.val))
  | [], i, _ => .inl ⟨rfl, fun e he => by cases he⟩
  | e :: l, i, h => by
    obtain ⟨q, hq⟩ := h e (by simp)
    have hs : Instr.sameNow (.int kk) (.int key k) e.key = some (k == q) := by rw [hq]; simp [Instr.sameNow]
    by_cases hk : k = q
    · subst hk
      refine .inr ⟨0, e, rfl, hq, ?_⟩
      simp only [Instr.findNow, hs, beq_self_eq_true, Nat.add_zero]
    · have hb : (k == q) = false := by simpa using hk
      rcases findNow_int l (i + 1) (fun e he => h e (by simp [he])) with ⟨h1, h2⟩ | ⟨j, e', h1, h2, h3⟩
      · refine .inl ⟨by simp only [Instr.findNow, hs, hb]; exact h1, fun e' he' => ?_⟩
        rcases List.mem_cons.1 he' with rfl | he'
        · rw [hq]; intro hc; injection hc with _ hc; exact hk hc.symm
        · exact h2 e' he'
      · exact .inr ⟨j + 1, e', by simpa using h1, h2, by simp only [Instr.findNow, hs, hb]; rw [h3]; congr 3; omega⟩
theorem run_findKey_int {P : Program} {kt : TypeId} {kk key : IntKind} {k : Int} (hd : P.underlying kt = some (.int kk)) {es : List MapEntry} (h : ∀ e ∈ es, ∃ q : Int, e.key = .int key q) :
    ((∀ w, (Instr.findKey kt (.int key k) es).run P w = .ok none w) ∧ ∀ e ∈ es, e.key ≠ .int key k) ∨
    ∃ j e, es[j]? = some e ∧ e.key = .int key k ∧ ∀ w, (Instr.findKey kt (.int key k) es).run P w = .ok (some (j, e.val)) w := by
  rcases findNow_int (kk := kk) (key := key) (k := k) es 0 h with ⟨h1, h2⟩ | ⟨j, e, h1, h2, h3⟩
  · refine .inl ⟨fun w => ?_, h2⟩
    unfold Instr.findKey
    simp only [Sem.run_bind, run_under hd, Result.andThen_ok, h1]; rfl
  · refine .inr ⟨j, e, h1, h2, fun w => ?_⟩
    unfold Instr.findKey
    simp only [Sem.run_bind, run_under hd, Result.andThen_ok, h3, Nat.zero_add]; rfl
theorem run_checkKey_int {P : Program} {kt : TypeId} {kk key : IntKind} {k : Int} (hd : P.underlying kt = some (.int kk)) (b : Bool) (w : World) : (Instr.checkKey b 10000 kt (.int key k)).run P w = .ok () w := by
  unfold Instr.checkKey
  simp only [Sem.run_bind, run_under hd, Result.andThen_ok]; rfl

def kW (agg : Bool) (cols : List KCol) (k : Int) : Option W := if agg then some (.agg (cols.map (·.at k))) else match cols with
  | [c] => some (.one (c.at k))
  | _ => none
theorem kW_ok {agg : Bool} {cols : List KCol} {k : Int} {wv : W} (h : kW agg cols k = some wv) {x : Value} (hx : kval agg cols k x) (β : Bm) : wv.rel β x := by
  unfold kW at h
  split at h
  · rename_i ha
    cases h
    unfold kval at hx
    rw [if_pos ha] at hx
    obtain ⟨cs, rfl, hsz, hc⟩ := hx
    refine ⟨cs, rfl, ?_⟩
    have key : ∀ (l : List KCol) (m : List Value), m.length = l.length → (∀ (j : Nat) (c : KCol), l[j]? = some c → ∃ y, m[j]? = some y ∧ c.rel k y) → All2 (L.rel β) (l.map (·.at k)) m := by
      intro l
      induction l with
      | nil => intro m hm _; cases m with | nil => trivial | cons _ _ => simp at hm
      | cons c l ih =>
        intro m hm hj
        cases m with
        | nil => simp at hm
        | cons y m =>
          obtain ⟨y', h1, h2⟩ := hj 0 c rfl
          simp at h1; subst h1
          exact ⟨(c.at_rel k β y).2 h2, ih m (by simpa using hm) (fun j c' hc' => by simpa using hj (j + 1) c' (by simpa using hc'))⟩
    exact key cols cs.toList (by simpa using hsz) (fun j c hc' => by obtain ⟨y, h1, h2⟩ := hc j c hc'; exact ⟨y, by simpa using h1, h2⟩)
  · rename_i ha
    split at h
    · rename_i c
      cases h
      unfold kval at hx
      rw [if_neg ha] at hx
      obtain ⟨c', hc, hr⟩ := hx
      cases hc
      exact (c.at_rel k β x).2 hr
    · cases h
def kPuts (k : Int) : List KCol → List L → Option (List KCol)
  | [], [] => some []
  | c :: cs, l :: ls => match c.put k l, kPuts k cs ls with
    | some c', some cs' => some (c' :: cs')
    | _, _ => none
  | _, _ => none
theorem kPuts_ok {k : Int} : ∀ {cols cols' : List KCol} {ls : List L}, kPuts k cols ls = some cols' → cols'.length = cols.length ∧ ls.length = cols.length ∧
    ∀ (j : Nat) (c : KCol), cols'[j]? = some c → ∃ c0 l, cols[j]? = some c0 ∧ ls[j]? = some l ∧ c0.put k l = some c
  | [], cols', [], h => by cases h; exact ⟨rfl, rfl, fun j c hc => by simp at hc⟩
  | c :: cs, cols', l :: ls, h => by
    unfold kPuts at h
    split at h
    · rename_i c' cs' h1 h2
      cases h
      obtain ⟨k1, k2, k3⟩ := kPuts_ok h2
      refine ⟨by simp [k1], by simp [k2], fun j c0 hc0 => ?_⟩
      cases j with
      | zero => simp at hc0; subst hc0; exact ⟨c, l, rfl, rfl, h1⟩
      | succ j => simpa using k3 j c0 (by simpa using hc0)
    · cases h
  | [], _, _ :: _, h => by cases h
  | _ :: _, _, [], h => by cases h
def kCells (agg : Bool) : W → Option (List L)
  | .agg ls => if agg then some ls else none
  | .one l => if agg then none else some [l]
  | .arr _ _ _ => none
theorem kval_put {agg : Bool} {k : Int} {cols cols' : List KCol} {wv : W} {ls : List L} {β : Bm} {x : Value} (hcells : kCells agg wv = some ls) (h : kPuts k cols ls = some cols') (hx : wv.rel β x) : kval agg cols' k x := by
  obtain ⟨h1, h2, h3⟩ := kPuts_ok h
  unfold kCells at hcells
  split at hcells
  · rename_i ls0
    split at hcells
    · rename_i ha
      cases hcells
      obtain ⟨cs, rfl, hr⟩ := hx
      unfold kval
      rw [if_pos ha]
      have hl := hr.length
      refine ⟨cs, rfl, by simp at hl; omega, fun j c hc => ?_⟩
      obtain ⟨c0, l, k1, k2, k3⟩ := h3 j c hc
      obtain ⟨y, hy, hry⟩ := hr.get j l k2
      exact ⟨y, by simpa using hy, KCol.put_same k3 hry⟩
    · cases hcells
  · rename_i l0
    split at hcells
    · cases hcells
    · rename_i ha
      cases hcells
      unfold kval
      rw [if_neg ha]
      cases cols' with
      | nil => simp at h1 h2; omega
      | cons c r =>
        cases r with
        | cons _ _ => simp at h1 h2; omega
        | nil =>
          obtain ⟨c0, l, k1, k2, k3⟩ := h3 0 c rfl
          simp at k2; subst k2
          exact ⟨c, rfl, KCol.put_same k3 hx⟩
  · cases hcells
theorem kval_other {agg : Bool} {k k' : Int} {cols cols' : List KCol} {ls : List L} {x : Value} (h : kPuts k cols ls = some cols') (hk : k' ≠ k) (hx : kval agg cols k' x) : kval agg cols' k' x := by
  obtain ⟨h1, h2, h3⟩ := kPuts_ok h
  unfold kval at hx ⊢
  split at hx
  · rename_i ha
    rw [if_pos ha]
    obtain ⟨cs, rfl, hsz, hc⟩ := hx
    refine ⟨cs, rfl, by omega, fun j c hcj => ?_⟩
    obtain ⟨c0, l, k1, k2, k3⟩ := h3 j c hcj
    obtain ⟨y, hy, hry⟩ := hc j c0 k1
    exact ⟨y, hy, KCol.put_other k3 hk hry⟩
  · rename_i ha
    rw [if_neg ha]
    obtain ⟨c0, rfl, hr⟩ := hx
    cases cols' with
    | nil => simp at h1
    | cons c r =>
      cases r with
      | cons _ _ => simp at h1
      | nil =>
        obtain ⟨c1, l, k1, k2, k3⟩ := h3 0 c rfl
        simp at k1; subst k1
        exact ⟨c, rfl, KCol.put_other k3 hk hr⟩

theorem mapOk.keysInt {key : IntKind} {agg : Bool} {has : Int → Bool} {cols : List KCol} {es : Array MapEntry} {clock : Nat} (h : mapOk key agg has cols es clock) : ∀ e ∈ es.toList, ∃ q : Int, e.key = .int key q :=
  fun e he => let ⟨k, hk, _⟩ := h.keys e he; ⟨k, hk⟩
theorem mapOk.find {P : Program} {key : IntKind} {agg : Bool} {has : Int → Bool} {cols : List KCol} {es : Array MapEntry} {clock : Nat} (h : mapOk key agg has cols es clock) {kt : TypeId} {kk : IntKind} (hd : P.underlying kt = some (.int kk)) (k : Int) :
    (has k = false ∧ (∀ w, (Instr.findKey kt (.int key k) es.toList).run P w = .ok none w) ∧ ∀ e ∈ es.toList, e.key ≠ .int key k) ∨
    (has k = true ∧ ∃ j e, es.toList[j]? = some e ∧ e.key = .int key k ∧ kval agg cols k e.val ∧ ∀ w, (Instr.findKey kt (.int key k) es.toList).run P w = .ok (some (j, e.val)) w) := by
  rcases run_findKey_int (P := P) (k := k) hd h.keysInt with ⟨h1, h2⟩ | ⟨j, e, h1, h2, h3⟩
  · refine .inl ⟨?_, h1, h2⟩
    cases hk : has k with
    | false => rfl
    | true => obtain ⟨e, he, hek⟩ := h.all k hk; exact absurd hek (h2 e he)
  · obtain ⟨q, hq, hh, hv⟩ := h.keys e (List.mem_of_getElem? h1)
    rw [h2] at hq
    cases hq
    exact .inr ⟨hh, j, e, h1, h2, hv, h3⟩
theorem nodup_get {es : List MapEntry} (h : (es.map (·.key)).Nodup) {i j : Nat} {a b : MapEntry} (ha : es[i]? = some a) (hb : es[j]? = some b) (he : a.key = b.key) : i = j := by
  have h1 : i < (es.map (·.key)).length := by rw [List.length_map]; exact (List.getElem?_eq_some_iff.1 ha).1
  have h2 : j < (es.map (·.key)).length := by rw [List.length_map]; exact (List.getElem?_eq_some_iff.1 hb).1
  have key : ∀ (x y : Nat) (hx : x < (es.map (·.key)).length) (hy : y < (es.map (·.key)).length), x < y → (es.map (·.key))[x] ≠ (es.map (·.key))[y] := fun x y hx hy hxy => List.pairwise_iff_getElem.1 h x y hx hy hxy
  have e1 : (es.map (·.key))[i] = (es.map (·.key))[j] := by
    simp only [List.getElem_map]
    rw [(List.getElem?_eq_some_iff.1 ha).2, (List.getElem?_eq_some_iff.1 hb).2]; exact he
  rcases Nat.lt_trichotomy i j with hij | hij | hij
  · exact absurd e1 (key i j h1 h2 hij)
  · exact hij
  · exact absurd e1.symm (key j i h2 h1 hij)

theorem mapOk.modify {key : IntKind} {agg : Bool} {has : Int → Bool} {cols cols' : List KCol} {es : Array MapEntry} {clock : Nat} (h : mapOk key agg has cols es clock) {k : Int} {j : Nat} {e : MapEntry} (hj : es.toList[j]? = some e) (he : e.key = .int key k)
    {ls : List L} (hp : kPuts k cols ls = some cols') {x : Value} (hx : kval agg cols' k x) : mapOk key agg (putK has k true) cols' (es.modify j fun e => { e with key := .int key k, val := x }) clock := by
  have hjs : j < es.size := by simpa using (List.getElem?_eq_some_iff.1 hj).1
  have hget : ∀ (i : Nat), (es.modify j fun e => { e with key := .int key k, val := x }).toList[i]? = if i = j then some { e with key := .int key k, val := x } else es.toList[i]? := by
    intro i
    rw [Array.getElem?_toList, Array.getElem?_modify]
    by_cases hij : j = i
    · subst hij
      rw [if_pos rfl, if_pos rfl]
      have : es[j]? = some e := by simpa using hj
      rw [this]; rfl
    · rw [if_neg hij, if_neg (fun h => hij h.symm)]; simp
  have hmem : ∀ e' ∈ (es.modify j fun e => { e with key := .int key k, val := x }).toList, e' = { e with key := .int key k, val := x } ∨ ∃ i, i ≠ j ∧ es.toList[i]? = some e' := by
    intro e' he'
    obtain ⟨i, hi⟩ := List.getElem?_of_mem he'
    rw [hget] at hi
    split at hi
    · cases hi; exact .inl rfl
    · rename_i hij; exact .inr ⟨i, hij, hi⟩
  have hkeys : (es.modify j fun e => { e with key := .int key k, val := x }).toList.map (·.key) = es.toList.map (·.key) := by
    apply List.ext_getElem?
    intro i
    rw [List.getElem?_map, List.getElem?_map, hget]
    split
    · rename_i hij; subst hij; rw [hj]; simp [he]
    · rfl
  have hborn : (es.modify j fun e => { e with key := .int key k, val := x }).toList.map (·.born) = es.toList.map (·.born) := by
    apply List.ext_getElem?
    intro i
    rw [List.getElem?_map, List.getElem?_map, hget]
    split
    · rename_i hij; subst hij; rw [hj]; simp
    · rfl
  refine ⟨fun e' he' => ?_, fun k' hk' => ?_, by rw [hkeys]; exact h.once, fun e' he' => ?_, by rw [hborn]; exact h.apart⟩
  · rcases hmem e' he' with rfl | ⟨i, hij, hi⟩
    · exact ⟨k, rfl, by simp [putK], hx⟩
    · obtain ⟨q, hq, hh, hv⟩ := h.keys e' (List.mem_of_getElem? hi)
      have hqk : q ≠ k := fun e2 => hij (nodup_get h.once hi hj (by rw [hq, he, e2]))
      exact ⟨q, hq, by simp [putK, hqk, hh], kval_other hp hqk hv⟩
  · by_cases e2 : k' = k
    · subst e2
      exact ⟨_, List.mem_of_getElem? (i := j) (by rw [hget, if_pos rfl]), rfl⟩
    · simp only [putK, if_neg e2] at hk'
      obtain ⟨e', he', hek⟩ := h.all k' hk'
      obtain ⟨i, hi⟩ := List.getElem?_of_mem he'
      have hij : i ≠ j := fun e3 => by
        subst e3; rw [hj] at hi; cases hi; rw [he] at hek; injection hek with _ hc; exact e2 hc.symm
      exact ⟨e', List.mem_of_getElem? (i := i) (by rw [hget, if_neg hij]; exact hi), hek⟩
  · rcases hmem e' he' with rfl | ⟨i, hij, hi⟩
    · exact h.born e (List.mem_of_getElem? hj)
    · exact h.born e' (List.mem_of_getElem? hi)
theorem mapOk.push {key : IntKind} {agg : Bool} {has : Int → Bool} {cols cols' : List KCol} {es : Array MapEntry} {clock : Nat} (h : mapOk key agg has cols es clock) {k : Int} (hno : ∀ e ∈ es.toList, e.key ≠ .int key k)
    {ls : List L} (hp : kPuts k cols ls = some cols') {x : Value} (hx : kval agg cols' k x) : mapOk key agg (putK has k true) cols' (es.push { key := .int key k, val := x, born := clock }) (clock + 1) := by
  refine ⟨fun e' he' => ?_, fun k' hk' => ?_, ?_, fun e' he' => ?_, ?_⟩
  · rw [Array.toList_push, List.mem_append, List.mem_singleton] at he'
    rcases he' with he' | rfl
    · obtain ⟨q, hq, hh, hv⟩ := h.keys e' he'
      have hqk : q ≠ k := fun e2 => hno e' he' (by rw [hq, e2])
      exact ⟨q, hq, by simp [putK, hqk, hh], kval_other hp hqk hv⟩
    · exact ⟨k, rfl, by simp [putK], hx⟩
  · by_cases e2 : k' = k
    · subst e2; exact ⟨{ key := .int key k', val := x, born := clock }, by simp, rfl⟩
    · simp only [putK, if_neg e2] at hk'
      obtain ⟨e', he', hek⟩ := h.all k' hk'
      exact ⟨e', by rw [Array.toList_push]; exact List.mem_append_left _ he', hek⟩
  · rw [Array.toList_push, List.map_append, List.nodup_append]
    refine ⟨h.once, by simp, fun a ha b hb => ?_⟩
    obtain ⟨e', he', rfl⟩ := List.mem_map.1 ha
    simp at hb; subst hb
    exact hno e' he'
  · rw [Array.toList_push, List.mem_append, List.mem_singleton] at he'
    rcases he' with he' | rfl
    · have := h.born e' he'; omega
    · exact Nat.lt_succ_self _
  · rw [Array.toList_push, List.map_append, List.nodup_append]
    refine ⟨h.apart, by simp, fun a ha b hb => ?_⟩
    obtain ⟨e', he', rfl⟩ := List.mem_map.1 ha
    simp at hb; subst hb
    have := h.born e' he'; omega
theorem mapOk.erase {key : IntKind} {agg : Bool} {has : Int → Bool} {cols : List KCol} {es : Array MapEntry} {clock : Nat} (h : mapOk key agg has cols es clock) {k : Int} {j : Nat} {e : MapEntry} (hj : es.toList[j]? = some e) (he : e.key = .int key k) :
    mapOk key agg (putK has k false) cols (es.eraseIdxIfInBounds j) clock := by
  have hjs : j < es.size := by simpa using (List.getElem?_eq_some_iff.1 hj).1
  have e0 : (es.eraseIdxIfInBounds j).toList = es.toList.eraseIdx j := by
    unfold Array.eraseIdxIfInBounds
    rw [dif_pos hjs, Array.toList_eraseIdx]
  have hmem : ∀ e' ∈ es.toList.eraseIdx j, e' ∈ es.toList ∧ e'.key ≠ .int key k := by
    intro e' he'
    obtain ⟨i, hij, hi⟩ := List.mem_eraseIdx_iff_getElem?.1 he'
    refine ⟨List.mem_of_getElem? hi, fun hk => hij (nodup_get h.once hi hj (by rw [hk, he]))⟩
  refine ⟨fun e' he' => ?_, fun k' hk' => ?_, ?_, fun e' he' => ?_, ?_⟩
  · rw [e0] at he'
    obtain ⟨h1, h2⟩ := hmem e' he'
    obtain ⟨q, hq, hh, hv⟩ := h.keys e' h1
    have hqk : q ≠ k := fun e2 => h2 (by rw [hq, e2])
    exact ⟨q, hq, by simp [putK, hqk, hh], hv⟩
  · have e2 : k' ≠ k := fun e2 => by subst e2; simp [putK] at hk'
    simp only [putK, if_neg e2] at hk'
    obtain ⟨e', he', hek⟩ := h.all k' hk'
    obtain ⟨i, hi⟩ := List.getElem?_of_mem he'
    have hij : i ≠ j := fun e3 => by
      subst e3; rw [hj] at hi; cases hi; rw [he] at hek; injection hek with _ hc; exact e2 hc.symm
    exact ⟨e', by rw [e0]; exact List.mem_eraseIdx_iff_getElem?.2 ⟨i, hij, hi⟩, hek⟩
  · rw [e0]
    exact h.once.sublist ((List.eraseIdx_sublist _ _).map _)
  · rw [e0] at he'
    exact h.born e' (hmem e' he').1
  · rw [e0]
    exact h.apart.sublist ((List.eraseIdx_sublist _ _).map _)
theorem mapOk.none {key : IntKind} {agg : Bool} {has : Int → Bool} {cols : List KCol} {es : Array MapEntry} {clock : Nat} (h : mapOk key agg has cols es clock) {k : Int} (hk : has k = false) : mapOk key agg (putK has k false) cols es clock := by
  have : putK has k false = has := by funext i; unfold putK; split
                                      · rename_i e; rw [e, hk]
                                      · rfl
  rw [this]; exact h
theorem mapOk_empty (key : IntKind) (agg : Bool) (cols : List KCol) : mapOk key agg (fun _ => false) cols #[] 0 :=
  ⟨(fun e he => by simp at he), (fun k hk => by cases hk), (by simp), (fun e he => by simp at he), (by simp)⟩
end Go.Proofs.YtpdijogpbnaplaaDoorHz
namespace Go.Proofs.YtpdijogpbnaplaaDoorHz
open Go Go.RowKit

structure Eff where
  v : V
  rd : List Nat
  wr : List (Nat × Option Ob)
inductive Ef where
  | det (e : Eff)
  | rel (T : Type) (rd wi : List Nat) (post : T → Option Prop) (e : T → V × List (Nat × Option Ob))
structure Path where
  g : Option Prop
  need : Option Prop
  e : Ef
def holdsP : Option Prop → Prop
  | none => True
  | some p => p

def EffOk (P : Program) (X : Cx) (op : Op) (s : S) (args : List V) (e : Eff) : Prop :=
  ∀ (o : Oper), o.op = op → (∀ t, o.dst = some t → t < X.n) → ∀ D s2 a w β, Chg D w → D.b0.le β → RepB X D β s2 a w → All2 (V.rel β) args (op.operands.toList.map a.eval) →
    (∀ id ∈ e.rd, s2.blk id = s.blk id) → (∀ q ∈ e.wr, s2.blk q.1 = s.blk q.1) → ∀ (K : Act → World → Prop) (Q : Exit → Act → World → Prop),
    (∀ a' w', Rep X D ⟨upd s2.tmp (look (wrT o.dst e.v)), upd s2.blk (look e.wr)⟩ a' w' → K a' w') → o.wp P a w K Q

def RelOk (P : Program) (X : Cx) (op : Op) (s : S) (args : List V) (T : Type) (rd wi : List Nat) (post : T → Option Prop) (e : T → V × List (Nat × Option Ob)) : Prop :=
  ∀ (o : Oper), o.op = op → (∀ t, o.dst = some t → t < X.n) → ∀ D s2 a w β, Chg D w → D.b0.le β → RepB X D β s2 a w → All2 (V.rel β) args (op.operands.toList.map a.eval) →
    (∀ id ∈ rd, s2.blk id = s.blk id) → (∀ id ∈ wi, s2.blk id = s.blk id) → ∀ (K : Act → World → Prop) (Q : Exit → Act → World → Prop),
    (∀ x, holdsP (post x) → ∀ a' w', Rep X D ⟨upd s2.tmp (look (wrT o.dst (e x).1)), upd s2.blk (look (e x).2)⟩ a' w' → K a' w') → o.wp P a w K Q
def EfOk (P : Program) (X : Cx) (op : Op) (s : S) (args : List V) : Ef → Prop
  | .det e => EffOk P X op s args e
  | .rel T rd wi post e => RelOk P X op s args T rd wi post e

def Gives (P : Program) (op : Op) (args : List V) (v : V) : Prop :=
  ∀ (β : Bm) (ρ : Operand → Value) (o : Oper), o.op = op → All2 (V.rel β) args (op.operands.toList.map ρ) → ∃ x, v.rel β x ∧ ∀ w, (execOp ρ o).run P w = .ok (.value x) w
theorem Gives.eff {P : Program} {X : Cx} {op : Op} {args : List V} {v : V} (h : Gives P op args v) (s : S) : EffOk P X op s args ⟨v, [], []⟩ := by
  intro o ho hd D s2 a w β hc hb hB hargs _ _ K Q hK
  obtain ⟨x, hx, hrun⟩ := h β a.eval o ho hargs
  unfold Oper.wp
  rw [hrun w]
  exact hK _ _ ⟨hc, β, hb, hB.put hd hx⟩
def Reads (P : Program) (op : Op) (args : List V) (id : Nat) (ob : Ob) (v : V) : Prop :=
  ∀ (β : Bm) (ρ : Operand → Value) (o : Oper) (w : World) (p : Pl), o.op = op → All2 (V.rel β) args (op.operands.toList.map ρ) → β id = some p → ob.ok β w p → ∃ x, v.rel β x ∧ (execOp ρ o).run P w = .ok (.value x) w
theorem Reads.eff {P : Program} {X : Cx} {op : Op} {args : List V} {id : Nat} {ob : Ob} {v : V} (h : Reads P op args id ob v) {s : S} (hs : s.blk id = some ob) : EffOk P X op s args ⟨v, [id], []⟩ := by
  intro o ho hd D s2 a w β hc hb hB hargs hrd _ K Q hK
  obtain ⟨p, k1, k2, _⟩ := hB.mem id ob (by rw [hrd id (by simp), hs])
  obtain ⟨x, hx, hrun⟩ := h β a.eval o w p ho hargs k1 k2
  unfold Oper.wp
  rw [hrun]
  exact hK _ _ ⟨hc, β, hb, hB.put hd hx⟩
def Writes (P : Program) (op : Op) (args : List V) (id : Nat) (ob ob' : Ob) : Prop :=
  ob.own = true ∧ ob'.own = true ∧ (∀ p b, ob'.foot p b → ob.foot p b) ∧
  ∀ (β : Bm) (ρ : Operand → Value) (o : Oper) (w : World) (p : Pl), o.op = op → All2 (V.rel β) args (op.operands.toList.map ρ) → β id = some p → ob.ok β w p →
    ∃ w', (execOp ρ o).run P w = .ok .skip w' ∧ w'.os = w.os ∧ w'.tape = w.tape ∧ w'.output = w.output ∧ w'.heap.size = w.heap.size ∧ (∀ k, ¬ ob.foot p k → w'.heap[k]? = w.heap[k]?) ∧ ob'.ok β w' p
theorem Writes.eff {P : Program} {X : Cx} {op : Op} {args : List V} {id : Nat} {ob ob' : Ob} (h : Writes P op args id ob ob') {s : S} (hs : s.blk id = some ob) : EffOk P X op s args ⟨undefV, [], [(id, some ob')]⟩ := by
  intro o ho hd D s2 a w β hc hb hB hargs _ hwr K Q hK
  have hs2 : s2.blk id = some ob := by rw [hwr _ (List.mem_singleton.2 rfl), hs]
  obtain ⟨p, k1, k2, k3⟩ := hB.mem id ob hs2
  obtain ⟨ho1, ho2, hft, hrun⟩ := h
  obtain ⟨w', r1, r2, r3, r4, r5, r6, r7⟩ := hrun β a.eval o w p ho hargs k1 k2
  unfold Oper.wp
  rw [r1]
  have hBw := hB.write (w' := w') hs2 ho1 ho2 k1 (by omega) (fun k _ hk => r6 k hk) (Nat.le_trans hc.base hc.size) r7 (fun b hb => .inl (hft p b hb))
  refine hK _ _ ⟨hc.later r2 r3 r4 (by omega) (fun k hk hF => r6 k fun hf => ?_), β, hb, ?_⟩
  · rcases k3 ho1 k hf with h1 | h1
    · omega
    · exact hF h1
  · exact hBw.put hd (undefV_ok β)
def Makes (P : Program) (op : Op) (args : List V) (l : L) (fresh : Nat) (ob : Ob) : Prop :=
  ∀ (β : Bm) (ρ : Operand → Value) (o : Oper) (w : World), o.op = op → All2 (V.rel β) args (op.operands.toList.map ρ) →
    ∃ x w' p, (execOp ρ o).run P w = .ok (.value x) w' ∧ w'.os = w.os ∧ w'.tape = w.tape ∧ w'.output = w.output ∧ w.heap.size ≤ w'.heap.size ∧ (∀ k, k < w.heap.size → w'.heap[k]? = w.heap[k]?) ∧ (∀ b, ob.foot p b → w.heap.size ≤ b) ∧
      ∀ β' : Bm, β.le β' → β' fresh = some p → ob.ok β' w' p ∧ l.rel β' x
theorem Makes.eff {P : Program} {X : Cx} {op : Op} {args : List V} {l : L} {fresh : Nat} {ob : Ob} (h : Makes P op args l fresh ob) {s : S} (hs : s.blk fresh = none) : EffOk P X op s args ⟨.val (.one l), [], [(fresh, some ob)]⟩ := by
  intro o ho hd D s2 a w β hc hb hB hargs _ hwr K Q hK
  have hs2 : s2.blk fresh = none := by rw [hwr _ (List.mem_singleton.2 rfl), hs]
  obtain ⟨x, w', p, r1, r2, r3, r4, r5, r6, r7, r8⟩ := h β a.eval o w ho hargs
  unfold Oper.wp
  rw [r1]
  have hbase := Nat.le_trans hc.base hc.size
  have hB1 := hB.later (w' := w') hbase r5 r6
  have hβid : β fresh = none := by
    cases hb : β fresh with
    | none => rfl
    | some q => obtain ⟨u, hu⟩ := hB.dom fresh q hb; rw [hs2] at hu; cases hu
  have hle0 : β.le (fun i => if i = fresh then some p else β i) := by
    intro i q hq
    have : i ≠ fresh := fun e => by rw [e, hβid] at hq; cases hq
    simp [this, hq]
  obtain ⟨q1, q2⟩ := r8 (fun i => if i = fresh then some p else β i) hle0 (by simp)
  obtain ⟨hle, hB2⟩ := hB1.fresh hs2 (o := ob) (p := p) (Nat.le_trans hbase r5) (fun b hbf => ⟨.inl (Nat.le_trans hbase (r7 b hbf)), fun i q r hi hg hr hf => by
    obtain ⟨p', a1, a2, _⟩ := hB.mem i q hi
    rw [hr] at a1; cases a1
    have := Ob.foot_lt a2 hg b hf
    have := r7 b hbf
    omega⟩) q1
  refine hK _ _ ⟨hc.later r2 r3 r4 r5 (fun k hk _ => r6 k (by omega)), _, Bm.le_trans hb hle, hB2.put hd (v := .val (.one l)) q2⟩

def asW : V → Option W
  | .val w => some w
  | _ => none
theorem asW_eq {v : V} {w : W} (h : asW v = some w) : v = .val w := by unfold asW at h; split at h <;> cases h; rfl
def allW : List V → Option (List W)
  | [] => some []
  | v :: vs => match asW v, allW vs with
    | some w, some ws => some (w :: ws)
    | _, _ => none
theorem allW_ok {β : Bm} : ∀ {vs : List V} {ws : List W}, allW vs = some ws → ∀ {xs : List Value}, All2 (V.rel β) vs xs → All2 (W.rel β) ws xs
  | [], ws, h, [], _ => by simp [allW] at h; subst h; trivial
  | v :: vs, ws, h, x :: xs, hr => by
    unfold allW at h
    split at h
    · rename_i w ws' h1 h2
      cases h
      have := asW_eq h1
      subst this
      exact ⟨hr.1, allW_ok h2 hr.2⟩
    · cases h
  | [], _, _, _ :: _, h => h.elim
  | _ :: _, _, _, [], h => h.elim
theorem zip_ok {β : Bm} : ∀ {ws : List W} {xs : List Value} (is : List Nat), All2 (W.rel β) ws xs → is.length = ws.length → All2 (fun (p : Nat × W) (q : Nat × Value) => p.1 = q.1 ∧ W.rel β p.2 q.2) (is.zip ws) (is.zip xs)
  | [], [], is, _, _ => by cases is <;> trivial
  | w :: ws, x :: xs, i :: is, h, hl => ⟨⟨rfl, h.1⟩, zip_ok is h.2 (by simpa using hl)⟩
  | _ :: _, _ :: _, [], _, hl => by simp at hl
  | [], _ :: _, _, h, _ => h.elim
  | _ :: _, [], _, h, _ => h.elim
theorem firm_all {β : Bm} : ∀ {ls : List L} {vs : List Value}, All2 (L.rel β) ls vs → ls.all L.firm = true → ∀ v ∈ vs, v.oneCell' = true
  | [], [], _, _, v, hv => by cases hv
  | l :: ls, u :: us, h, hf, v, hv => by
    simp only [List.all_cons, Bool.and_eq_true] at hf
    rcases List.mem_cons.1 hv with rfl | hv
    · exact L.firm_ok h.1 hf.1
    · exact firm_all h.2 hf.2 v hv
  | [], _ :: _, h, _, _, _ => h.elim
  | _ :: _, [], h, _, _, _ => h.elim
theorem W.cells_firm {w : W} (h : w.firm = true) : w.cells.all L.firm = true := by
  cases w with
  | one l => simpa [W.cells, W.firm] using h
  | agg ls => exact h
  | arr k n g => cases h

section
variable {P : Program}

theorem gives_move (x : Operand) (v : V) : Gives P (.move x) [v] v := by
  intro β ρ o ho h
  obtain ⟨dst, op, type, pos, after, guard⟩ := o; simp only at ho; subst ho
  exact ⟨_, h.1, fun w => rfl⟩
theorem gives_assign (x : Operand) (v : V) : Gives P (.assign x) [v] v := by
  intro β ρ o ho h
  obtain ⟨dst, op, type, pos, after, guard⟩ := o; simp only at ho; subst ho
  exact ⟨_, h.1, fun w => rfl⟩
theorem gives_pick (c a b : Operand) (e : B) (va vb : V) : Gives P (.pick c a b) [.val (.one (.bool e)), va, vb] (if e.v then va else vb) := by
  intro β ρ o ho h
  obtain ⟨dst, op, type, pos, after, guard⟩ := o; simp only at ho; subst ho
  obtain ⟨h1, h2, h3, _⟩ := h
  have hc : ρ c = .bool e.v := h1
  refine ⟨if e.v then ρ a else ρ b, by cases e.v; exact h3; exact h2, fun w => ?_⟩
  simp only [execOp, hc, asBool]; rfl
theorem gives_pickB (c a b : Operand) (e x y : B) : Gives P (.pick c a b) [.val (.one (.bool e)), .val (.one (.bool x)), .val (.one (.bool y))] (.val (.one (.bool (.tm (bif e.v then x.v else y.v))))) := by
  intro β ρ o ho h
  obtain ⟨z, h1, h2⟩ := gives_pick c a b e _ _ β ρ o ho h
  refine ⟨z, ?_, h2⟩
  cases he : e.v <;> rw [he] at h1 <;> exact h1
theorem makes_cells {op : Op} {args : List V} {lay : List Lay} {cells : List L} {segs : List Seg} {fresh : Nat} (hs : mkSegs lay cells = some segs)
    (hrun : ∀ (β : Bm) (ρ : Operand → Value) (o : Oper), o.op = op → All2 (V.rel β) args (op.operands.toList.map ρ) → ∃ cs ty, All2 (L.rel β) cells cs ∧ ∀ w : World, (execOp ρ o).run P w = .ok (.value (.pointer (some ⟨w.heap.size, 0, none⟩))) (w.alloc (.cells cs.toArray ty))) :
    Makes P op args (.ptr fresh 0) fresh (.mem true segs) := by
  intro β ρ o w ho h
  obtain ⟨cs, ty, hcs, hr⟩ := hrun β ρ o ho h
  refine ⟨_, _, .blk w.heap.size, hr w, rfl, rfl, rfl, by simp, fun k hk => Below.heap_alloc _ _ _ hk, fun b hb => (by cases hb; exact Nat.le_refl _), fun β' hle hf => ⟨⟨by simp, ?_, fun _ j => by simp⟩, w.heap.size, hf, rfl⟩⟩
  refine mkSegs_ok hs (hcs.mono (fun l x => L.rel_mono hle l x)) (fun j v hv => ?_)
  simpa using hv
theorem makes_alloc {t : TypeId} {zw : W} {lay : List Lay} {segs : List Seg} {fresh : Nat} (hz : zeroW P t = some zw) (hs : mkSegs lay zw.cells = some segs) : Makes P (.alloc t) [] (.ptr fresh 0) fresh (.mem true segs) := by
  refine makes_cells hs (fun β ρ o ho _ => ?_)
  obtain ⟨dst, op, type, pos, after, guard⟩ := o; simp only at ho; subst ho
  obtain ⟨hf, v, hv, hr⟩ := zeroW_ok hz β
  refine ⟨v.cells.toList, t, W.firm_cells hv hf, fun w => ?_⟩
  simp only [execOp, Instr.alloc, Sem.run_bind, hr, Result.andThen_ok, newVar, newRow, run_newObj, Sem.run_pure]
  simp
theorem makes_box {t : TypeId} {x : Operand} {wv : W} {lay : List Lay} {segs : List Seg} {fresh : Nat} (hf : wv.firm = true) (hs : mkSegs lay wv.cells = some segs) : Makes P (.box t x) [.val wv] (.ptr fresh 0) fresh (.mem true segs) := by
  refine makes_cells hs (fun β ρ o ho h => ?_)
  obtain ⟨dst, op, type, pos, after, guard⟩ := o; simp only at ho; subst ho
  refine ⟨(ρ x).cells.toList, t, W.firm_cells h.1 hf, fun w => ?_⟩
  simp only [execOp, Instr.box, Sem.run_bind, Result.andThen_ok, newVar, newRow, run_newObj, Sem.run_pure]
  simp
theorem gives_build {t : TypeId} {parts : Array (Nat × Operand)} {args : List V} {ws : List W} {ls : List L} (hws : allW args = some ws) (hlen : ws.length = parts.toList.length) (hls : buildW P t ((parts.toList.map (·.1)).zip ws) = some ls) :
    Gives P (.build t parts) args (.val (.agg ls)) := by
  intro β ρ o ho ha
  obtain ⟨dst, op, type, pos, after, guard⟩ := o; simp only at ho; subst ho
  simp only [Op.operands] at ha
  have h1 := allW_ok hws ha
  have e : parts.toList.map (fun p => (p.1, ρ p.2)) = (parts.toList.map (·.1)).zip ((parts.toList.map (·.2)).map ρ) := by
    rw [List.map_map, List.zip_map']; rfl
  have h2 := zip_ok (parts.toList.map (·.1)) (by simpa using h1) (by rw [List.length_map]; exact hlen.symm)
  obtain ⟨es, he, hr⟩ := buildW_ok (vs := (parts.toList.map (·.1)).zip ((parts.toList.map (·.2)).map ρ)) hls (by simpa using h2)
  refine ⟨.agg es, ⟨es, rfl, he⟩, fun w => ?_⟩
  have e2 : (parts.map fun (i, x) => (i, ρ x)) = ((parts.toList.map (·.1)).zip ((parts.toList.map (·.2)).map ρ)).toArray := by
    rw [← e]
    apply Array.ext'
    simp
  simp only [execOp, e2, Sem.run_bind, hr, Result.andThen_ok]
  rfl
theorem reads_load {t : TypeId} {x : Operand} {id off n : Nat} {own : Bool} {segs : List Seg} {ls : List L} (hag : tyAgg P t = some true) (hsz : tySize P t = some n) (hl : loadN segs off n = some ls) :
    Reads P (.load t x) [.val (.one (.ptr id off))] id (.mem own segs) (.val (.agg ls)) := by
  intro β ρ o w p ho h hp hok
  obtain ⟨dst, op, type, pos, after, guard⟩ := o; simp only at ho; subst ho
  obtain ⟨b, hb, hx⟩ := h.1
  rw [hp] at hb; cases hb
  obtain ⟨k1, k2⟩ := loadN_get hl
  obtain ⟨vs, r1, r2⟩ := loadRun (P := P) (β := β) (w := w) (b := b) n off 0 ls #[] [] k1 (fun j l hj => by
    obtain ⟨y, h1, h2⟩ := loadCell_ok hok.2.1 (k2 j l hj)
    exact ⟨y, by rw [Nat.zero_add] at h1; rw [Nat.add_zero]; exact h1, h2⟩) trivial
  refine ⟨.agg vs, ⟨vs, rfl, by simpa using r2⟩, ?_⟩
  simp only [execOp, Instr.loadAt, hx, Instr.sureAddr, loadVar, loadCells, Sem.run_bind, Sem.run_pure, tyAgg_ok hag, tySize_ok hsz, Result.andThen_ok, if_true, r1]
theorem reads_load1 {t : TypeId} {x : Operand} {id off : Nat} {own : Bool} {segs : List Seg} {l : L} (hag : tyAgg P t = some false) (hl : loadCell segs off = some l) :
    Reads P (.load t x) [.val (.one (.ptr id off))] id (.mem own segs) (.val (.one l)) := by
  intro β ρ o w p ho h hp hok
  obtain ⟨dst, op, type, pos, after, guard⟩ := o; simp only at ho; subst ho
  obtain ⟨b, hb, hx⟩ := h.1
  rw [hp] at hb; cases hb
  obtain ⟨y, h1, h2⟩ := loadCell_ok hok.2.1 hl
  rw [Nat.zero_add] at h1
  refine ⟨y, h2, ?_⟩
  simp only [execOp, Instr.loadAt, hx, Instr.sureAddr, loadVar, Sem.run_bind, Sem.run_pure, tyAgg_ok hag, Result.andThen_ok, Bool.false_eq_true, if_false, run_load, h1]
def eltLs (cols : List Col) (i : Nat) : List L := cols.map (·.at i)
theorem row_get {w : World} {b off n : Nat} {cols : List Col} (h : rowOk w b off n cols) {i : Nat} (hi : i < n) {β : Bm} {j : Nat} {l : L} (hl : (eltLs cols i)[j]? = some l) : ∃ x, w.cell? ⟨b, off + i * cols.length + j, none⟩ = some x ∧ l.rel β x := by
  unfold eltLs at hl
  rw [List.getElem?_map] at hl
  cases hc : cols[j]? with
  | none => rw [hc] at hl; cases hl
  | some c =>
    rw [hc] at hl; cases hl
    obtain ⟨x, h1, h2⟩ := h i hi j c hc
    exact ⟨x, h1, (c.at_rel i β x).2 h2⟩
def eltOf (ob : Ob) : L → Option (Nat × Nat × Nat × List Col)
  | .elt _ base stride i off => match ob with
    | .mem _ segs => (match rowAt segs base with
      | some (n, cols) => if Nat.beq stride cols.length then some (i, off, n, cols) else none
      | none => none)
    | _ => none
  | .lel _ stride i off => match ob with
    | .vec _ _ n cols => if Nat.beq stride cols.length then some (i, off, n, cols) else none
    | _ => none
  | _ => none
def eltId : L → Option Nat
  | .elt id _ _ _ _ => some id
  | .lel id _ _ _ => some id
  | _ => none
theorem eltOf_ok {β : Bm} {w : World} {ob : Ob} {l : L} {id i off n : Nat} {cols : List Col} (h : eltOf ob l = some (i, off, n, cols)) (hid : eltId l = some id) {p : Pl} (hp : β id = some p) (hok : ob.ok β w p) {x : Value} (hx : l.rel β x) (_hi : i < n) :
    ∃ b row, x = .pointer (some ⟨b, row + i * cols.length + off, none⟩) ∧ rowOk w b row n cols ∧ ob.foot p b ∧ ∀ b', ob.foot p b' → b' = b := by
  unfold eltOf at h
  split at h
  · rename_i id' base stride i' off'
    cases hid
    split at h
    · rename_i own segs
      split at h
      · rename_i n' cols' hr
        split at h
        · rename_i hs
          cases h
          have := Nat.eq_of_beq_eq_true hs
          subst this
          obtain ⟨b, hb, rfl⟩ := hx
          rw [hp] at hb; cases hb
          have := rowAt_ok hok.2.1 hr
          exact ⟨b, base, rfl, by simpa using this, rfl, fun _ h => h⟩
        · cases h
      · cases h
    · cases h
  · rename_i id' stride i' off'
    cases hid
    split at h
    · rename_i own e n' cols'
      split at h
      · rename_i hs
        cases h
        have := Nat.eq_of_beq_eq_true hs
        subst this
        obtain ⟨b, o, n0, c, hb, rfl⟩ := hx
        rw [hp] at hb; cases hb
        obtain ⟨_, h1⟩ := hok
        rcases h1 with ⟨_, h1, _⟩ | ⟨b', off0, cap, h1, h2, h3, h4, _⟩
        · cases h1
        · cases h1
          exact ⟨b, o, rfl, h4, rfl, fun _ h => h⟩
      · cases h
    · cases h
  · cases h
theorem reads_elt1 {t : TypeId} {x : Operand} {l : L} {id i off n : Nat} {ob : Ob} {cols : List Col} {r : L} (hid : eltId l = some id) (he : eltOf ob l = some (i, off, n, cols)) (hag : tyAgg P t = some false) (hl : (eltLs cols i)[off]? = some r) (hi : i < n) :
    Reads P (.load t x) [.val (.one l)] id ob (.val (.one r)) := by
  intro β ρ o w p ho h hp hok
  obtain ⟨dst, op, type, pos, after, guard⟩ := o; simp only at ho; subst ho
  obtain ⟨b, row, hx, hrow, _⟩ := eltOf_ok he hid hp hok (x := ρ x) h.1 hi
  obtain ⟨y, h1, h2⟩ := row_get hrow hi (β := β) hl
  refine ⟨y, h2, ?_⟩
  simp only [execOp, Instr.loadAt, hx, Instr.sureAddr, loadVar, Sem.run_bind, Sem.run_pure, tyAgg_ok hag, Result.andThen_ok, Bool.false_eq_true, if_false, run_load, h1]
theorem reads_elt {t : TypeId} {x : Operand} {l : L} {id i off n m : Nat} {ob : Ob} {cols : List Col} (hid : eltId l = some id) (he : eltOf ob l = some (i, off, n, cols)) (hag : tyAgg P t = some true) (hsz : tySize P t = some m) (hm : off + m ≤ cols.length) (hi : i < n) :
    Reads P (.load t x) [.val (.one l)] id ob (.val (.agg (((eltLs cols i).drop off).take m))) := by
  intro β ρ o w p ho h hp hok
  obtain ⟨dst, op, type, pos, after, guard⟩ := o; simp only at ho; subst ho
  obtain ⟨b, row, hx, hrow, _⟩ := eltOf_ok he hid hp hok (x := ρ x) h.1 hi
  obtain ⟨vs, r1, r2⟩ := loadRun (P := P) (β := β) (w := w) (b := b) m (row + i * cols.length + off) 0 (((eltLs cols i).drop off).take m) #[] [] (by simp [eltLs]; omega) (fun j l hj => by
    rw [List.getElem?_take] at hj
    split at hj
    · rw [List.getElem?_drop] at hj
      obtain ⟨y, h1, h2⟩ := row_get hrow hi (β := β) hj
      exact ⟨y, by rw [Nat.add_zero, Nat.add_assoc]; exact h1, h2⟩
    · cases hj) trivial
  refine ⟨.agg vs, ⟨vs, rfl, by simpa using r2⟩, ?_⟩
  simp only [execOp, Instr.loadAt, hx, Instr.sureAddr, loadVar, loadCells, Sem.run_bind, Sem.run_pure, tyAgg_ok hag, tySize_ok hsz, Result.andThen_ok, if_true, r1]
theorem writes_cells {t : TypeId} {x y : Operand} {id off n : Nat} {segs segs' : List Seg} {wv : W} (hsz : tySize P t = some n) (hf : wv.firm = true) (hn : wv.cells.length = n) (hs : storeS segs off wv.cells = some segs') (ho : off ≤ segsSize segs) :
    Writes P (.store t x y) [.val (.one (.ptr id off)), .val wv] id (.mem true segs) (.mem true segs') := by
  refine ⟨rfl, rfl, fun _ _ h => h, fun β ρ o w p hop h hp hok => ?_⟩
  obtain ⟨dst, op, type, pos, after, guard⟩ := o; simp only at hop; subst hop
  obtain ⟨⟨b, hb, hx⟩, hy, _⟩ := h
  rw [hp] at hb; cases hb
  have hcells := W.firm_cells hy hf
  have hone := firm_all hcells (W.cells_firm hf)
  have hl := hcells.length
  obtain ⟨z1, z2, z3⟩ := storeS_ok hs ho
  have hfz := hok.2.2 rfl
  obtain ⟨w', r1, r2⟩ := storeRun (P := P) (b := b) (ρ y).cells.toList off 0 w hone (fun j hj => by
    obtain ⟨u, hu⟩ := segs_has hok.2.1 (off + j) (by omega)
    exact ⟨u, by rw [Nat.add_zero]; rw [Nat.zero_add] at hu; exact hu⟩) hfz
  rw [Nat.add_zero] at r2
  refine ⟨w', ?_, r2.os, r2.tape, r2.output, r2.size, fun k hk => r2.other k (fun e => hk (by rw [e]; rfl)), ⟨by rw [r2.size]; exact hok.1, ?_, fun _ j => by rw [r2.frozen]; exact hfz j⟩⟩
  · have hsize : ¬ ((ρ y).cells.size ≠ n) := by simp only [Array.length_toList] at hl; omega
    simp only [execOp, Instr.storeAt, hx, Instr.sureAddr, storeVar, Sem.run_bind, Sem.run_pure, tySize_ok hsz, Result.andThen_ok, if_neg hsize, r1]
  · exact z3 β w b 0 hok.2.1 w' _ hcells (fun j v hv => by rw [Nat.zero_add]; exact r2.hit j v hv) (fun j hj => r2.miss j (by omega))
theorem writes_elt {t : TypeId} {x y : Operand} {id base stride i off n m : Nat} {segs segs' : List Seg} {wv : W} {cols : List Col} (hsz : tySize P t = some m) (hf : wv.firm = true) (hn : wv.cells.length = m) (hs : storeEltN segs base stride i off wv.cells = some segs') (hm : wv.cells ≠ []) (hr : rowAt segs base = some (n, cols)) (hi : i < n) :
    Writes P (.store t x y) [.val (.one (.elt id base stride i off)), .val wv] id (.mem true segs) (.mem true segs') := by
  refine ⟨rfl, rfl, fun _ _ h => h, fun β ρ o w p hop h hp hok => ?_⟩
  obtain ⟨dst, op, type, pos, after, guard⟩ := o; simp only at hop; subst hop
  obtain ⟨⟨b, hb, hx⟩, hy, _⟩ := h
  rw [hp] at hb; cases hb
  have hcells := W.firm_cells hy hf
  have hone := firm_all hcells (W.cells_firm hf)
  have hl := hcells.length
  generalize hcs : wv.cells = wc at *
  cases wc with
  | nil => exact absurd rfl hm
  | cons l ls =>
  obtain ⟨z1, z2, z3⟩ := storeEltN_ok hs (fun n' c' h => by rw [hr] at h; cases h; exact hi)
  have hfz := hok.2.2 rfl
  obtain ⟨w', r1, r2⟩ := storeRun (P := P) (b := b) (ρ y).cells.toList (base + i * stride + off) 0 w hone (fun j hj => by
    obtain ⟨u, hu⟩ := segs_has hok.2.1 (base + i * stride + off + j) (by omega)
    exact ⟨u, by rw [Nat.add_zero]; rw [Nat.zero_add] at hu; exact hu⟩) hfz
  rw [Nat.add_zero] at r2
  refine ⟨w', ?_, r2.os, r2.tape, r2.output, r2.size, fun k hk => r2.other k (fun e => hk (by rw [e]; rfl)), ⟨by rw [r2.size]; exact hok.1, ?_, fun _ j => by rw [r2.frozen]; exact hfz j⟩⟩
  · have hsize : ¬ ((ρ y).cells.size ≠ m) := by simp only [Array.length_toList] at hl; omega
    simp only [execOp, Instr.storeAt, hx, Instr.sureAddr, storeVar, Sem.run_bind, Sem.run_pure, tySize_ok hsz, Result.andThen_ok, if_neg hsize, r1]
  · exact z3 β w b 0 hok.2.1 w' _ hcells (fun j v hv => by rw [Nat.zero_add]; exact r2.hit j v hv) (fun j hj => r2.miss j (by omega))
theorem writes_lel {t : TypeId} {x y : Operand} {id i off n m : Nat} {e : TypeId} {wv : W} {cols cols' : List Col} (hsz : tySize P t = some m) (hf : wv.firm = true) (hn : wv.cells.length = m) (hput : putCols i cols off wv.cells = some cols') (hm : wv.cells ≠ []) (hi : i < n) :
    Writes P (.store t x y) [.val (.one (.lel id cols.length i off)), .val wv] id (.vec true e n cols) (.vec true e n cols') := by
  refine ⟨rfl, rfl, fun _ _ h => h, fun β ρ o w p hop h hp hok => ?_⟩
  obtain ⟨dst, op, type, pos, after, guard⟩ := o; simp only at hop; subst hop
  obtain ⟨⟨b, o0, n0, cap0, hb, hx⟩, hy, _⟩ := h
  rw [hp] at hb; cases hb
  obtain ⟨hn63, h1⟩ := hok
  rcases h1 with ⟨_, h1, _⟩ | ⟨b', off0, cap, h1, h2, h3, h4, h5⟩
  · cases h1
  · cases h1
    obtain ⟨rfl, h6, cs, h7, h8⟩ := h5 rfl
    have hcells := W.firm_cells hy hf
    have hone := firm_all hcells (W.cells_firm hf)
    have hl := hcells.length
    obtain ⟨p1, p2, p3⟩ := putCols_ok (n := n) hput
    have p2 := p2 hm
    have hfz : noFreeze w b := fun j => by simp [World.frozen?, h7]
    obtain ⟨w', r1, r2⟩ := storeRun (P := P) (b := b) (ρ y).cells.toList (0 + i * cols.length + off) 0 w hone (fun j hj => by
      have hj : off + j < cols.length := by omega
      obtain ⟨u, hu, _⟩ := h4 i hi (off + j) _ (List.getElem?_eq_getElem hj)
      exact ⟨u, by rw [Nat.add_zero, Nat.add_assoc]; exact hu⟩) hfz
    rw [Nat.add_zero] at r2
    refine ⟨w', ?_, r2.os, r2.tape, r2.output, r2.size, fun k hk => r2.other k (fun e => hk (by rw [e]; rfl)), ⟨hn63, .inr ⟨b, 0, cap0, rfl, by rw [r2.size]; exact h2, h3, ?_, fun _ => ⟨rfl, h6, ?_⟩⟩⟩⟩
    · have hsize : ¬ ((ρ y).cells.size ≠ m) := by simp only [Array.length_toList] at hl; omega
      simp only [execOp, Instr.storeAt, hx, Instr.sureAddr, storeVar, Sem.run_bind, Sem.run_pure, tySize_ok hsz, Result.andThen_ok, if_neg hsize, r1]
    · exact p3 β w b 0 hi h4 w' _ hcells (fun j v hv => r2.hit j v hv) (fun j hj => r2.miss j hj)
    · obtain ⟨cs', q1, q2⟩ := r2.shape cs e (0, 0) h7
      exact ⟨cs', q1, by rw [q2, h8, p1]⟩
end
end Go.Proofs.YtpdijogpbnaplaaDoorHz
namespace Go.Proofs.YtpdijogpbnaplaaDoorHz
open Go Go.RowKit
section
variable {P : Program}

def isPtr : L → Bool
  | .ptr _ _ | .elt _ _ _ _ _ | .lel _ _ _ _ | .fptr _ _ _ => true
  | _ => false
theorem isPtr_ok {β : Bm} {l : L} (h : isPtr l = true) {x : Value} (hx : l.rel β x) : ∃ a : Addr, x = .pointer (some a) := by
  cases l <;> first | (cases h; done) | skip
  · obtain ⟨b, _, rfl⟩ := hx; exact ⟨_, rfl⟩
  · obtain ⟨b, _, rfl⟩ := hx; exact ⟨_, rfl⟩
  · obtain ⟨b, o, n, c, _, rfl⟩ := hx; exact ⟨_, rfl⟩
  · exact ⟨_, hx⟩
theorem gives_nilCheck (x : Operand) {l : L} (h : isPtr l = true) : Gives P (.nilCheck x) [.val (.one l)] (.val (.one l)) := by
  intro β ρ o ho hr
  obtain ⟨dst, op, type, pos, after, guard⟩ := o; simp only at ho; subst ho
  obtain ⟨a, ha⟩ := isPtr_ok h (x := ρ x) hr.1
  exact ⟨ρ x, hr.1, fun w => by simp only [execOp, ha]; rfl⟩
theorem gives_bin {op : BinOp} {t yt : TypeId} {x y : Operand} {a b : W} {l : L} (h : binV P op t a b = some l) : Gives P (.binOp op t x y yt) [.val a, .val b] (.val (.one l)) := by
  intro β ρ o ho hr
  obtain ⟨dst, op, type, pos, after, guard⟩ := o; simp only at ho; subst ho
  obtain ⟨z, hz, hw⟩ := binV_ok h hr.1 hr.2.1 x y
  refine ⟨z, hz, fun w => ?_⟩
  simp only [execOp]
  rw [Sem.run_bind, hw w]
  rfl
theorem gives_not {t : TypeId} {x : Operand} (e : B) : Gives P (.unOp .not t x) [.val (.one (.bool e))] (.val (.one (.bool (mkNot e)))) := by
  intro β ρ o ho hr
  obtain ⟨dst, op, type, pos, after, guard⟩ := o; simp only at ho; subst ho
  have hx : ρ x = .bool e.v := hr.1
  exact ⟨.bool (!e.v), by simp only [V.rel, W.rel, L.rel, mkNot_ok], fun w => by simp only [execOp, hx, Op.unary]; rfl⟩
theorem gives_neg {t : TypeId} {x : Operand} (k : IntKind) (e : N) : Gives P (.unOp .neg t x) [.val (.one (.int k e))] (.val (.one (.int k (e.map fun n => k.wrap (0 - n))))) := by
  intro β ρ o ho hr
  obtain ⟨dst, op, type, pos, after, guard⟩ := o; simp only at ho; subst ho
  have hx : ρ x = .int k e.v := hr.1
  exact ⟨.int k (k.wrap (0 - e.v)), by simp only [V.rel, W.rel, L.rel, N.map_ok], fun w => by simp only [execOp, hx, Op.unary, Op.intArith]; rfl⟩
theorem gives_compl {t : TypeId} {x : Operand} (k : IntKind) (e : N) : Gives P (.unOp .xor t x) [.val (.one (.int k e))] (.val (.one (.int k (e.map fun n => Go.bits .xor k (if k.signed then -1 else k.max) n)))) := by
  intro β ρ o ho hr
  obtain ⟨dst, op, type, pos, after, guard⟩ := o; simp only at ho; subst ho
  have hx : ρ x = .int k e.v := hr.1
  exact ⟨.int k (Go.bits .xor k (if k.signed then -1 else k.max) e.v), by simp only [V.rel, W.rel, L.rel, N.map_ok], fun w => by simp only [execOp, hx, Op.unary, intBits_xor]; rfl⟩
theorem gives_convert {s d : TypeId} {x : Operand} {k k' : IntKind} {ds : TypeDesc} {e : N} (h1 : P.underlying s = some ds) (h2 : P.underlying d = some (.int k')) : Gives P (.convert s d x) [.val (.one (.int k e))] (.val (.one (.int k' (e.map k'.wrap)))) := by
  intro β ρ o ho hr
  obtain ⟨dst, op, type, pos, after, guard⟩ := o; simp only at ho; subst ho
  have hx : ρ x = .int k e.v := hr.1
  refine ⟨.int k' (k'.wrap e.v), by simp only [V.rel, W.rel, L.rel, N.map_ok], fun w => ?_⟩
  simp only [execOp, hx, convert, Sem.run_bind, run_under h1, run_under h2, Result.andThen_ok]
  rfl
def moveL (m : Nat) : L → Option L
  | .ptr id off => some (.ptr id (off + m))
  | .elt id base stride i off => some (.elt id base stride i (off + m))
  | .lel id stride i off => some (.lel id stride i (off + m))
  | _ => none
theorem gives_fieldAddr {t : TypeId} {x : Operand} {f n : Nat} {fs : Array Field} {g : Field} {l l' : L} (h1 : P.underlying t = some (.struct fs)) (hg : fs[f]? = some g) (hn : tySize P g.type = some n) (hn0 : n ≠ 0) (hl : moveL g.offset l = some l') :
    Gives P (.fieldAddr t x f) [.val (.one l)] (.val (.one l')) := by
  intro β ρ o ho hr
  obtain ⟨dst, op, type, pos, after, guard⟩ := o; simp only at ho; subst ho
  have key : ∃ a : Addr, a.spot = none ∧ ρ x = .pointer (some a) ∧ l'.rel β (.pointer (some (a.add g.offset))) := by
    have hx := hr.1
    unfold moveL at hl
    split at hl
    · cases hl; obtain ⟨b, hb, hx⟩ := hx; exact ⟨_, rfl, hx, b, hb, by rw [addr_add]⟩
    · cases hl; obtain ⟨b, hb, hx⟩ := hx; exact ⟨_, rfl, hx, b, hb, by rw [addr_add, Nat.add_assoc]⟩
    · cases hl; obtain ⟨b, o, n, c, hb, hx⟩ := hx; exact ⟨_, rfl, hx, b, o, n, c, hb, by rw [addr_add, Nat.add_assoc]⟩
    · cases hl
  obtain ⟨a, _, hx, hl'⟩ := key
  refine ⟨_, hl', fun w => ?_⟩
  simp only [execOp, Instr.fieldAt, hx, Sem.run_bind, run_under h1, Result.andThen_ok, hg, Instr.sureAddr, Sem.run_pure, fieldPlace, tySize_ok hn, if_neg hn0]
theorem gives_field {t : TypeId} {x : Operand} {f : Nat} {fs : Array Field} {g : Field} {ls : List L} {wv : W} (h1 : P.underlying t = some (.struct fs)) (hg : fs[f]? = some g) (hw : partW P g.type ls g.offset = some wv) :
    Gives P (.field t x f) [.val (.agg ls)] (.val wv) := by
  intro β ρ o ho hr
  obtain ⟨dst, op, type, pos, after, guard⟩ := o; simp only at ho; subst ho
  obtain ⟨cs, hx, hcs⟩ := hr.1
  obtain ⟨y, hy, hrun⟩ := partW_ok hw hcs
  refine ⟨y, hy, fun wd => ?_⟩
  simp only [execOp, Instr.field, hx, Sem.run_bind, run_under h1, Result.andThen_ok, hg, asAgg, Sem.run_pure, hrun]
theorem gives_indexArr {t : TypeId} {x i : Operand} {k : IntKind} {e : N} {len el n id off : Nat} {l' : L} (h1 : P.underlying t = some (.array len el)) (hn : tySize P el = some n) (h0 : 0 ≤ e.v) (hlt : e.v < len)
    (hl : l' = .elt id off n e.v.toNat 0 ∨ l' = .ptr id (off + e.v.toNat * n)) : Gives P (.indexAddr t x i) [.val (.one (.ptr id off)), .val (.one (.int k e))] (.val (.one l')) := by
  intro β ρ o ho hr
  obtain ⟨dst, op, type, pos, after, guard⟩ := o; simp only at ho; subst ho
  obtain ⟨⟨b, hb, hx⟩, hi, _⟩ := hr
  have hi' : ρ i = .int k e.v := hi
  refine ⟨.pointer (some ⟨b, off + e.v.toNat * n, none⟩), ?_, fun w => ?_⟩
  · rcases hl with rfl | rfl
    · exact ⟨b, hb, rfl⟩
    · exact ⟨b, hb, rfl⟩
  · simp only [execOp, Instr.indexAt, hx, hi', asIntOf, Sem.run_bind, Sem.run_pure, run_under h1, Result.andThen_ok, Instr.sureAddr, if_pos (And.intro h0 hlt), tySize_ok hn, addr_add]
theorem reads_indexVec {t el : TypeId} {x i : Operand} {k : IntKind} {e : N} {n id m : Nat} {own : Bool} {ety : TypeId} {cols : List Col} (h1 : P.underlying t = some (.slice el)) (hn : tySize P el = some n) (h0 : 0 ≤ e.v) (hlt : e.v < m) :
    Reads P (.indexAddr t x i) [.val (.one (.vec id)), .val (.one (.int k e))] id (.vec own ety m cols) (.val (.one (.lel id n e.v.toNat 0))) := by
  intro β ρ o w p ho hr hp hok
  obtain ⟨dst, op, type, pos, after, guard⟩ := o; simp only at ho; subst ho
  obtain ⟨⟨hb, _⟩, hi, _⟩ := hr
  have hi' : ρ i = .int k e.v := hi
  rw [hp] at hb; cases hb
  obtain ⟨_, h2⟩ := hok
  rcases h2 with ⟨c, _, h2, _⟩ | ⟨b, off, cap, hx, k1, k2, k3, _⟩
  · exfalso; subst h2; simp at hlt; omega
  · rw [hx] at hp
    refine ⟨.pointer (some ⟨b, off + e.v.toNat * n, none⟩), ⟨b, off, m, cap, hp, rfl⟩, ?_⟩
    simp only [execOp, Instr.indexAt, hx, hi', asIntOf, Sem.run_bind, Sem.run_pure, run_under h1, Result.andThen_ok, if_pos (And.intro h0 hlt), tySize_ok hn, addr_add]
theorem gives_index {t : TypeId} {x i : Operand} {k : IntKind} {e : N} {len el n : Nat} {ls : List L} {wv : W} (h1 : P.underlying t = some (.array len el)) (hn : tySize P el = some n) (h0 : 0 ≤ e.v) (hlt : e.v < len) (hw : partW P el ls (e.v.toNat * n) = some wv) :
    Gives P (.index t x i) [.val (.agg ls), .val (.one (.int k e))] (.val wv) := by
  intro β ρ o ho hr
  obtain ⟨dst, op, type, pos, after, guard⟩ := o; simp only at ho; subst ho
  obtain ⟨⟨cs, hx, hcs⟩, hi, _⟩ := hr
  have hi' : ρ i = .int k e.v := hi
  obtain ⟨y, hy, hrun⟩ := partW_ok hw hcs
  refine ⟨y, hy, fun wd => ?_⟩
  simp only [execOp, Instr.index, hx, hi', asIntOf, Sem.run_bind, Sem.run_pure, run_under h1, Result.andThen_ok, if_pos (And.intro h0 hlt), tySize_ok hn, hrun]
theorem gives_extract {x : Operand} {i : Nat} {ws : List W} {wv : W} (hw : ws[i]? = some wv) : Gives P (.extract x i) [.tup ws] (.val wv) := by
  intro β ρ o ho hr
  obtain ⟨dst, op, type, pos, after, guard⟩ := o; simp only at ho; subst ho
  obtain ⟨xs, hx, hr⟩ := hr.1
  obtain ⟨y, hy, hyr⟩ := hr.get i wv hw
  refine ⟨y, hyr, fun wd => ?_⟩
  have : xs[i]? = some y := by simpa using hy
  simp only [execOp, Instr.extract, hx, this]; rfl
theorem getMap {w : World} {r : Nat} {es : Array MapEntry} {clock : Nat} (hb : w.heap[r]? = some (.map es clock)) : (getObj r).run P w = .ok (.map es clock) w := by
  simp [getObj, Sem.run, hb]
theorem setMap {w : World} {r : Nat} {es : Array MapEntry} {clock : Nat} (o : Obj) (hb : w.heap[r]? = some (.map es clock)) : (setObj r o).run P w = .ok () { w with heap := w.heap.setIfInBounds r o } := by
  simp [setObj, Sem.run, hb]
theorem reads_lookup {t kt et : TypeId} {m i : Operand} {ok agg own : Bool} {kk key : IntKind} {e : N} {id : Nat} {has : Int → Bool} {cols : List KCol} {wv : W} (h1 : P.underlying t = some (.map kt et)) (h2 : P.underlying kt = some (.int kk)) (hh : has e.v = true) (hw : kW agg cols e.v = some wv) :
    Reads P (.lookup t m i ok) [.val (.one (.map id)), .val (.one (.int key e))] id (.mp own key agg has cols) (if ok then .tup [wv, .one (.bool (.lit true))] else .val wv) := by
  intro β ρ o w p ho hr hp hok
  obtain ⟨dst, op, type, pos, after, guard⟩ := o; simp only at ho; subst ho
  obtain ⟨⟨b, hb, hx⟩, hi, _⟩ := hr
  have hi' : ρ i = .int key e.v := hi
  rw [hp] at hb; cases hb
  obtain ⟨_, es, clock, k1, k2⟩ := hok
  rcases k2.find (P := P) h2 e.v with ⟨h3, _⟩ | ⟨_, j, en, _, _, q3, q4⟩
  · rw [hh] at h3; cases h3
  · have hrel := kW_ok hw q3 β
    refine ⟨if ok then .tuple #[en.val, .bool true] else en.val, ?_, ?_⟩
    · cases ok
      · exact hrel
      · exact ⟨#[en.val, .bool true], rfl, hrel, rfl, trivial⟩
    · simp only [execOp, Instr.lookup, hx, hi', Sem.run_bind, run_under h1, Result.andThen_ok, getMap k1, Sem.run_pure, run_checkKey_int h2, q4 w]
      try (cases ok <;> rfl)
theorem reads_lookupNo {t kt et : TypeId} {m i : Operand} {ok agg own : Bool} {kk key : IntKind} {e : N} {id : Nat} {has : Int → Bool} {cols : List KCol} {zw : W} (h1 : P.underlying t = some (.map kt et)) (h2 : P.underlying kt = some (.int kk)) (hh : has e.v = false) (hz : zeroW P et = some zw) :
    Reads P (.lookup t m i ok) [.val (.one (.map id)), .val (.one (.int key e))] id (.mp own key agg has cols) (if ok then .tup [zw, .one (.bool (.lit false))] else .val zw) := by
  intro β ρ o w p ho hr hp hok
  obtain ⟨dst, op, type, pos, after, guard⟩ := o; simp only at ho; subst ho
  obtain ⟨⟨b, hb, hx⟩, hi, _⟩ := hr
  have hi' : ρ i = .int key e.v := hi
  rw [hp] at hb; cases hb
  obtain ⟨_, es, clock, k1, k2⟩ := hok
  obtain ⟨_, v, hv, hzr⟩ := zeroW_ok hz β
  rcases k2.find (P := P) h2 e.v with ⟨_, q4, _⟩ | ⟨h3, _⟩
  · refine ⟨if ok then .tuple #[v, .bool false] else v, ?_, ?_⟩
    · cases ok
      · exact hv
      · exact ⟨#[v, .bool false], rfl, hv, rfl, trivial⟩
    · simp only [execOp, Instr.lookup, hx, hi', Sem.run_bind, run_under h1, Result.andThen_ok, getMap k1, Sem.run_pure, run_checkKey_int h2, q4 w, hzr]
      try (cases ok <;> rfl)
  · rw [hh] at h3; cases h3
theorem heap_set (w : World) (b k : Nat) (o : Obj) (h : k ≠ b) : (w.heap.setIfInBounds b o)[k]? = w.heap[k]? := Array.getElem?_setIfInBounds_ne (Ne.symm h)
theorem heap_set_same (w : World) (b : Nat) (o : Obj) (h : b < w.heap.size) : (w.heap.setIfInBounds b o)[b]? = some o := by simp [h]
theorem sameBits_int (k : IntKind) (n : Int) : Instr.sameBits 10000 (.int k n) (.int k n) = true := by simp [Instr.sameBits]
theorem writes_mapUpdate {t kt et : TypeId} {m i v : Operand} {agg : Bool} {kk key : IntKind} {e : N} {id : Nat} {has : Int → Bool} {cols cols' : List KCol} {wv : W} {ls : List L} (h1 : P.underlying t = some (.map kt et)) (h2 : P.underlying kt = some (.int kk))
    (hc : kCells agg wv = some ls) (hp0 : kPuts e.v cols ls = some cols') : Writes P (.mapUpdate t m i v) [.val (.one (.map id)), .val (.one (.int key e)), .val wv] id (.mp true key agg has cols) (.mp true key agg (putK has e.v true) cols') := by
  refine ⟨rfl, rfl, fun _ _ h => h, fun β ρ o w p hop hr hp hok => ?_⟩
  obtain ⟨dst, op, type, pos, after, guard⟩ := o; simp only at hop; subst hop
  obtain ⟨⟨b, hb, hx⟩, hi, hv, _⟩ := hr
  have hi' : ρ i = .int key e.v := hi
  rw [hp] at hb; cases hb
  obtain ⟨hlt, es, clock, k1, k2⟩ := hok
  have hval := kval_put hc hp0 (x := ρ v) hv
  rcases k2.find (P := P) h2 e.v with ⟨_, q4, q5⟩ | ⟨_, j, en, q1, q2, _, q4⟩
  · refine ⟨{ w with heap := w.heap.setIfInBounds b (.map (es.push { key := .int key e.v, val := ρ v, born := clock }) (clock + 1)) }, ?_, rfl, rfl, rfl, by simp, fun k hk => heap_set w b k _ (fun e => hk (by rw [e]; rfl)), by simpa using hlt, _, _, heap_set_same w b _ hlt, k2.push q5 hp0 hval⟩
    simp only [execOp, Instr.mapUpdate, hx, hi', Sem.run_bind, run_under h1, Result.andThen_ok, getMap k1, run_checkKey_int h2, q4 w, setMap _ k1]
    rfl
  · refine ⟨{ w with heap := w.heap.setIfInBounds b (.map (es.modify j fun e' => { e' with key := .int key e.v, val := ρ v }) clock) }, ?_, rfl, rfl, rfl, by simp, fun k hk => heap_set w b k _ (fun e => hk (by rw [e]; rfl)), by simpa using hlt, _, _, heap_set_same w b _ hlt, k2.modify q1 q2 hp0 hval⟩
    have hjs : ((es[j]?).map (·.key)).getD (.int key e.v) = .int key e.v := by
      have : es[j]? = some en := by simpa using q1
      rw [this]; simp [q2]
    simp only [execOp, Instr.mapUpdate, hx, hi', Sem.run_bind, run_under h1, Result.andThen_ok, getMap k1, run_checkKey_int h2, q4 w, hjs, Instr.keyThatStays, sameBits_int, if_true, Sem.run_pure, setMap _ k1]
theorem writes_delete {t kt et : TypeId} {ats : Array TypeId} {m i : Operand} {agg : Bool} {kk key : IntKind} {e : N} {id : Nat} {has : Int → Bool} {cols : List KCol} (h0 : ats[0]? = some t) (h1 : P.underlying t = some (.map kt et)) (h2 : P.underlying kt = some (.int kk)) :
    ∀ (β : Bm) (ρ : Operand → Value) (o : Oper) (w : World) (p : Pl), o.op = .call { callee := .builtin .delete, args := #[m, i], argTypes := ats } → All2 (V.rel β) [.val (.one (.map id)), .val (.one (.int key e))] ([m, i].map ρ) → β id = some p → (Ob.mp true key agg has cols).ok β w p →
    ∃ w', (execOp ρ o).run P w = .ok (.value (.tuple #[])) w' ∧ w'.os = w.os ∧ w'.tape = w.tape ∧ w'.output = w.output ∧ w'.heap.size = w.heap.size ∧ (∀ k, ¬ (Ob.mp true key agg has cols).foot p k → w'.heap[k]? = w.heap[k]?) ∧ (Ob.mp true key agg (putK has e.v false) cols).ok β w' p := by
  intro β ρ o w p hop hr hp hok
  obtain ⟨dst, op, type, pos, after, guard⟩ := o; simp only at hop; subst hop
  obtain ⟨⟨b, hb, hx⟩, hi, _⟩ := hr
  have hi' : ρ i = .int key e.v := hi
  rw [hp] at hb; cases hb
  obtain ⟨hlt, es, clock, k1, k2⟩ := hok
  rcases k2.find (P := P) h2 e.v with ⟨hno, q4, q5⟩ | ⟨_, j, en, q1, q2, _, q4⟩
  · refine ⟨{ w with heap := w.heap.setIfInBounds b (.map es clock) }, ?_, rfl, rfl, rfl, by simp, fun k hk => heap_set w b k _ (fun e => hk (by rw [e]; rfl)), by simpa using hlt, _, _, heap_set_same w b _ hlt, k2.none hno⟩
    simp [execOp, resolve, invoke, builtin, Builtin.delete_, h0, hx, hi', run_under h1, getMap k1, run_checkKey_int h2, q4 w, setMap _ k1]
  · refine ⟨{ w with heap := w.heap.setIfInBounds b (.map (es.eraseIdxIfInBounds j) clock) }, ?_, rfl, rfl, rfl, by simp, fun k hk => heap_set w b k _ (fun e => hk (by rw [e]; rfl)), by simpa using hlt, _, _, heap_set_same w b _ hlt, k2.erase q1 q2⟩
    simp [execOp, resolve, invoke, builtin, Builtin.delete_, h0, hx, hi', run_under h1, getMap k1, run_checkKey_int h2, q4 w, setMap _ k1]
theorem makes_map {t : TypeId} {fresh : Nat} (key : IntKind) (agg : Bool) (cols : List KCol) : Makes P (.makeMap t none) [] (.map fresh) fresh (.mp true key agg (fun _ => false) cols) := by
  intro β ρ o w ho h
  obtain ⟨dst, op, type, pos, after, guard⟩ := o; simp only at ho; subst ho
  refine ⟨.map (some w.heap.size), w.alloc (.map #[] 0), .blk w.heap.size, ?_, rfl, rfl, rfl, by simp, fun k hk => Below.heap_alloc _ _ _ hk, fun b hb => (by cases hb; exact Nat.le_refl _), fun β' _ hf => ⟨⟨by simp, #[], 0, heap_alloc_new w _, mapOk_empty _ _ _⟩, w.heap.size, hf, rfl⟩⟩
  simp only [execOp, Option.map_none, Instr.makeMap, Sem.run_bind, Sem.run_pure, Result.andThen_ok, run_newObj]
  try rfl
end
end Go.Proofs.YtpdijogpbnaplaaDoorHz
namespace Go.Proofs.YtpdijogpbnaplaaDoorHz
open Go Go.RowKit
section
variable {P : Program}

theorem guard_ptr (op : BinOp) (t : TypeId) (x y : Operand) (a b : Option Addr) (w : World) : (eqGuard op t x y (.pointer a) (.pointer b)).run P w = .ok () w := by
  unfold eqGuard; cases op <;> rfl
theorem gives_ptrNil {op : BinOp} {t yt : TypeId} {x y : Operand} {l : L} {b : Bool} (hl : isPtr l = true) (ht : P.underlying t = some (.pointer (P.pointee t))) (hop : op = .eql ∧ b = false ∨ op = .neq ∧ b = true) :
    Gives P (.binOp op t x y yt) [.val (.one l), .val (.one (.cst (.pointer none)))] (.val (.one (.bool (.lit b)))) := by
  intro β ρ o ho hr
  obtain ⟨dst, op', type, pos, after, guard⟩ := o; simp only at ho; subst ho
  obtain ⟨a, ha⟩ := isPtr_ok hl (x := ρ x) hr.1
  have hy : ρ y = .pointer none := hr.2.1
  refine ⟨.bool b, rfl, fun w => ?_⟩
  rcases hop with ⟨rfl, rfl⟩ | ⟨rfl, rfl⟩
  · simp only [execOp, ha, hy, Sem.run_bind, guard_ptr, Result.andThen_ok, run_eql_pointer_nil w t (some a) ht]; rfl
  · simp only [execOp, ha, hy, Sem.run_bind, guard_ptr, Result.andThen_ok, run_neq_pointer_nil w t (some a) ht]; rfl
theorem gives_nilNil {op : BinOp} {t yt : TypeId} {x y : Operand} {b : Bool} (ht : P.underlying t = some (.pointer (P.pointee t))) (hop : op = .eql ∧ b = true ∨ op = .neq ∧ b = false) :
    Gives P (.binOp op t x y yt) [.val (.one (.cst (.pointer none))), .val (.one (.cst (.pointer none)))] (.val (.one (.bool (.lit b)))) := by
  intro β ρ o ho hr
  obtain ⟨dst, op', type, pos, after, guard⟩ := o; simp only at ho; subst ho
  have hx : ρ x = .pointer none := hr.1
  have hy : ρ y = .pointer none := hr.2.1
  refine ⟨.bool b, rfl, fun w => ?_⟩
  rcases hop with ⟨rfl, rfl⟩ | ⟨rfl, rfl⟩
  · simp only [execOp, hx, hy, Sem.run_bind, guard_ptr, Result.andThen_ok, run_eql_pointer_nil w t none ht]; rfl
  · simp only [execOp, hx, hy, Sem.run_bind, guard_ptr, Result.andThen_ok, run_neq_pointer_nil w t none ht]; rfl

def appN {α : Type} (g : Nat → α) (n : Nat) (h : Nat → α) : Nat → α := fun i => if i < n then g i else h (i - n)
def Col.app (n : Nat) : Col → Col → Option Col
  | .ints k g, .ints k' h => if kindEq k k' then some (.ints k (appN g n h)) else none
  | .bools g, .bools h => some (.bools (appN g n h))
  | .vals g, .vals h => some (.vals (appN g n h))
  | .fsubs id bb lo ln, .fsubs id' bb' lo' ln' => some (.fsubs (hint2 id id') (appN bb n bb') (appN lo n lo') (appN ln n ln'))
  | _, _ => none
def appCols (n : Nat) : List Col → List Col → Option (List Col)
  | [], [] => some []
  | c :: cs, d :: ds => match c.app n d, appCols n cs ds with
    | some e, some es => some (e :: es)
    | _, _ => none
  | _, _ => none
theorem Col.app_ok {n : Nat} {c d e : Col} (h : c.app n d = some e) (i : Nat) (x : Value) : (i < n → c.rel i x → e.rel i x) ∧ (∀ j, i = n + j → d.rel j x → e.rel i x) := by
  unfold Col.app at h
  split at h
  · split at h
    · rename_i hk
      cases h
      have := kindEq_eq hk
      subst this
      refine ⟨fun hi hr => ?_, fun j hj hr => ?_⟩
      · simp only [Col.rel, appN, if_pos hi]; exact hr
      · subst hj
        simp only [Col.rel, appN, if_neg (show ¬ n + j < n by omega), Nat.add_sub_cancel_left]; exact hr
    · cases h
  · cases h
    refine ⟨fun hi hr => ?_, fun j hj hr => ?_⟩
    · simp only [Col.rel, appN, if_pos hi]; exact hr
    · subst hj
      simp only [Col.rel, appN, if_neg (show ¬ n + j < n by omega), Nat.add_sub_cancel_left]; exact hr
  · cases h
    refine ⟨fun hi hr => ?_, fun j hj hr => ?_⟩
    · simp only [Col.rel, appN, if_pos hi]; exact hr
    · subst hj
      simp only [Col.rel, appN, if_neg (show ¬ n + j < n by omega), Nat.add_sub_cancel_left]; exact hr
  · cases h
    refine ⟨fun hi hr => ?_, fun j hj hr => ?_⟩
    · simp only [Col.rel, appN, if_pos hi]; exact hr
    · subst hj
      simp only [Col.rel, appN, if_neg (show ¬ n + j < n by omega), Nat.add_sub_cancel_left]; exact hr
  · cases h
theorem appCols_ok {n : Nat} : ∀ {cs ds es : List Col}, appCols n cs ds = some es → cs.length = ds.length ∧ es.length = cs.length ∧ ∀ (j : Nat) (e : Col), es[j]? = some e → ∃ c d, cs[j]? = some c ∧ ds[j]? = some d ∧ c.app n d = some e
  | [], [], es, h => by cases h; exact ⟨rfl, rfl, fun j e he => by simp at he⟩
  | c :: cs, d :: ds, es, h => by
    unfold appCols at h
    split at h
    · rename_i e es' h1 h2
      cases h
      obtain ⟨k1, k2, k3⟩ := appCols_ok h2
      refine ⟨by simp [k1], by simp [k2], fun j e' he' => ?_⟩
      cases j with
      | zero => simp at he'; subst he'; exact ⟨c, d, rfl, rfl, h1⟩
      | succ j => simpa using k3 j e' (by simpa using he')
    · cases h
  | [], _ :: _, _, h => by cases h
  | _ :: _, [], _, h => by cases h

theorem vec_owns {β : Bm} {w : World} {e : TypeId} {n : Nat} {cols : List Col} {x : Value} (h : (Ob.vec true e n cols).ok β w (.val x)) : ∃ xs, w.ownsRow 0 e cols.length x n xs ∧ ∀ i, i < n → ∀ (j : Nat) (c : Col), cols[j]? = some c → ∃ y, xs[i * cols.length + j]? = some y ∧ c.rel i y := by
  obtain ⟨h0, h1⟩ := h
  rcases h1 with ⟨c, rfl, rfl, hc⟩ | ⟨b, off, cap, rfl, k1, k2, k3, k4⟩
  · have := hc rfl
    subst this
    exact ⟨[], ⟨by simp, .inl ⟨rfl, rfl⟩⟩, fun i hi => absurd hi (Nat.not_lt_zero i)⟩
  · obtain ⟨rfl, hcap, cs, hcs, hsz⟩ := k4 rfl
    have hle : n * cols.length ≤ cs.size := by rw [hsz]; exact Nat.mul_le_mul_right _ k2
    refine ⟨cs.toList.take (n * cols.length), ⟨by simp; omega, .inr ⟨b, cap, cs, rfl, Nat.zero_le _, hcs, k2, hcap, hsz, rfl⟩⟩, fun i hi j c hc => ?_⟩
    obtain ⟨y, h2, h3⟩ := k3 i hi j c hc
    have hjl : j < cols.length := (List.getElem?_eq_some_iff.1 hc).1
    have hb : i * cols.length + j < n * cols.length := by
      have : (i + 1) * cols.length ≤ n * cols.length := Nat.mul_le_mul_right _ hi
      rw [Nat.succ_mul] at this; omega
    refine ⟨y, ?_, h3⟩
    rw [List.getElem?_take, if_pos hb]
    simp only [World.cell?, hcs, Option.isSome_none, Bool.false_eq_true, if_false, Nat.zero_add] at h2
    simpa using h2
theorem owns_vec {β : Bm} {w : World} {e : TypeId} {n : Nat} {cols : List Col} {x : Value} {xs : List Value} (h : w.ownsRow 0 e cols.length x n xs) (hn : n ≤ 9223372036854775807)
    (hx : ∀ i, i < n → ∀ (j : Nat) (c : Col), cols[j]? = some c → ∃ y, xs[i * cols.length + j]? = some y ∧ c.rel i y) : (Ob.vec true e n cols).ok β w (.val x) := by
  obtain ⟨h1, h2⟩ := h
  refine ⟨hn, ?_⟩
  rcases h2 with ⟨rfl, rfl⟩ | ⟨g, cap, cur, rfl, _, hg, hc, hm, hs, ht⟩
  · exact .inl ⟨0, rfl, rfl, fun _ => rfl⟩
  · refine .inr ⟨g, 0, cap, rfl, (Array.getElem?_eq_some_iff.1 hg).1, hc, fun i hi j c hcj => ?_, fun _ => ⟨rfl, hm, cur, hg, hs⟩⟩
    obtain ⟨y, h3, h4⟩ := hx i hi j c hcj
    refine ⟨y, ?_, h4⟩
    have hjl : j < cols.length := (List.getElem?_eq_some_iff.1 hcj).1
    have hb : i * cols.length + j < n * cols.length := by
      have : (i + 1) * cols.length ≤ n * cols.length := Nat.mul_le_mul_right _ hi
      rw [Nat.succ_mul] at this; omega
    rw [← ht, List.getElem?_take, if_pos hb] at h3
    simp only [World.cell?, hg, Option.isSome_none, Bool.false_eq_true, if_false, Nat.zero_add]
    simpa using h3
theorem vec_shape {β : Bm} {w : World} {own : Bool} {e : TypeId} {n : Nat} {cols : List Col} {x : Value} (h : (Ob.vec own e n cols).ok β w (.val x)) : ∃ a c, x = .slice a n c := by
  obtain ⟨_, h1⟩ := h
  rcases h1 with ⟨c, rfl, rfl, _⟩ | ⟨b, off, cap, rfl, _⟩
  · exact ⟨_, _, rfl⟩
  · exact ⟨_, _, rfl⟩

theorem reads_len {t el : TypeId} {x : Operand} {ats : Array TypeId} {id n : Nat} {own : Bool} {e : TypeId} {cols : List Col} (h0 : ats[0]? = some t) (h1 : P.underlying t = some (.slice el)) :
    Reads P (.call { callee := .builtin .len, args := #[x], argTypes := ats }) [.val (.one (.vec id))] id (.vec own e n cols) (.val (.one (.int .i64 (.tm n)))) := by
  intro β ρ o w p ho hr hp hok
  obtain ⟨dst, op, type, pos, after, guard⟩ := o; simp only at ho; subst ho
  obtain ⟨⟨hb, _⟩, _⟩ := hr
  rw [hp] at hb; cases hb
  obtain ⟨a, c, hx⟩ := vec_shape hok
  refine ⟨.int .i64 n, rfl, ?_⟩
  have hx' : ρ x = .slice a n c := hx
  have e1 : #[x].map ρ = #[.slice a n c] := by simp [hx']
  simp [execOp, resolve, e1, invoke, builtin, Builtin.len_, h0, run_under h1, goInt]
theorem gives_lenNil {t el : TypeId} {x : Operand} {ats : Array TypeId} (h0 : ats[0]? = some t) (h1 : P.underlying t = some (.slice el)) :
    Gives P (.call { callee := .builtin .len, args := #[x], argTypes := ats }) [.val (.one (.cst (.slice none 0 0)))] (.val (.one (.int .i64 (.lit 0)))) := by
  intro β ρ o ho hr
  obtain ⟨dst, op, type, pos, after, guard⟩ := o; simp only at ho; subst ho
  have hx : ρ x = .slice none 0 0 := hr.1
  refine ⟨.int .i64 0, rfl, fun w => ?_⟩
  simp [execOp, resolve, invoke, builtin, Builtin.len_, h0, hx, run_under h1, goInt]

def colOf : L → Option Col
  | .int k e => some (.ints k fun _ => e.v)
  | .bool e => some (.bools fun _ => e.v)
  | .fsub id b lo n => some (.fsubs id (fun _ => b) (fun _ => lo) (fun _ => n))
  | _ => none
def colsOf : List L → Option (List Col)
  | [] => some []
  | l :: ls => match colOf l, colsOf ls with
    | some c, some cs => some (c :: cs)
    | _, _ => none
theorem colOf_ok {l : L} {c : Col} (h : colOf l = some c) {β : Bm} {x : Value} (hx : l.rel β x) (i : Nat) : c.rel i x := by
  unfold colOf at h
  split at h
  · cases h; exact hx
  · cases h; exact hx
  · cases h; exact hx
  · cases h
theorem colsOf_ok : ∀ {ls : List L} {cs : List Col}, colsOf ls = some cs → cs.length = ls.length ∧ ∀ (j : Nat) (c : Col), cs[j]? = some c → ∃ l, ls[j]? = some l ∧ colOf l = some c
  | [], cs, h => by cases h; exact ⟨rfl, fun j c hc => by simp at hc⟩
  | l :: ls, cs, h => by
    unfold colsOf at h
    split at h
    · rename_i c cs' h1 h2
      cases h
      obtain ⟨k1, k2⟩ := colsOf_ok h2
      refine ⟨by simp [k1], fun j c' hc' => ?_⟩
      cases j with
      | zero => simp at hc'; subst hc'; exact ⟨l, rfl, h1⟩
      | succ j => simpa using k2 j c' (by simpa using hc')
    · cases h
theorem set_split {α : Type} (v : α) : ∀ (l : List α) (k : Nat), k < l.length → l.set k v = l.take k ++ v :: l.drop (k + 1)
  | x :: l, 0, _ => rfl
  | x :: l, k + 1, h => by simp [set_split v l k (by simpa using h)]
theorem fillRun : ∀ (vs : List Value) (off k : Nat) (ds : Array Value), off + k + vs.length ≤ ds.size →
    ((vs.zipIdx k).foldl (fun cs (p : Value × Nat) => cs.setIfInBounds (off + p.2) p.1) ds).toList = ds.toList.take (off + k) ++ vs ++ ds.toList.drop (off + k + vs.length)
  | [], off, k, ds, _ => by simp
  | v :: vs, off, k, ds, h => by
    simp only [List.length_cons] at h
    simp only [List.zipIdx_cons, List.foldl_cons]
    rw [fillRun vs off (k + 1) _ (by simp; omega), Array.toList_setIfInBounds, set_split v _ _ (by simp; omega)]
    have hl : (ds.toList.take (off + k)).length = off + k := by simp; omega
    have e1 : (ds.toList.take (off + k) ++ v :: ds.toList.drop (off + k + 1)).take (off + (k + 1)) = ds.toList.take (off + k) ++ [v] := by
      rw [List.take_append, hl, show off + (k + 1) - (off + k) = 1 by omega, List.take_of_length_le (by omega)]; rfl
    have e2 : (ds.toList.take (off + k) ++ v :: ds.toList.drop (off + k + 1)).drop (off + (k + 1) + vs.length) = ds.toList.drop (off + k + (vs.length + 1)) := by
      rw [List.drop_append, hl, List.drop_eq_nil_of_le (by omega), show off + (k + 1) + vs.length - (off + k) = vs.length + 1 by omega, List.nil_append, List.drop_succ_cons, List.drop_drop]
      congr 1; omega
    rw [e1, e2]
    simp
theorem makes_slice1 {t el : TypeId} {x : Operand} {wv : W} {cols : List Col} {n fresh : Nat} (h1 : P.underlying t = some (.slice el)) (hn : tySize P el = some n) (hn0 : 0 < n) (hn1 : n ≤ 64) (hz : ∃ zw, zeroW P el = some zw ∧ zw.cells.length = n) (hf : wv.firm = true) (hl : wv.cells.length = n) (hc : colsOf wv.cells = some cols) :
    Makes P (.buildSlice t 1 #[(0, x)]) [.val wv] (.vec fresh) fresh (.vec true el 1 cols) := by
  intro β ρ o w ho hr
  obtain ⟨dst, op, type, pos, after, guard⟩ := o; simp only at ho; subst ho
  have hx : wv.rel β (ρ x) := hr.1
  have hcells := W.firm_cells hx hf
  have hlen := hcells.length
  simp only [Array.length_toList] at hlen
  obtain ⟨zw, hz1, hz2⟩ := hz
  obtain ⟨hzf, zv, hzv, hzr⟩ := zeroW_ok hz1 β
  have hzl := (W.firm_cells hzv hzf).length
  simp only [Array.length_toList] at hzl
  have hfill : Instr.fill (fun i => some (i * n, n)) ((Array.range (1 * n)).map (zv.cells[· % zv.cells.size]!)) [(0, ρ x)] = some (ρ x).cells := by
    have hsz : ¬ ((ρ x).cells.size ≠ n ∨ 0 * n + (ρ x).cells.size > ((Array.range (1 * n)).map (zv.cells[· % zv.cells.size]!)).size) := by
      simp; omega
    simp only [Instr.fill]
    rw [if_neg (by simpa using hsz)]
    congr 1
    apply Array.ext'
    rw [← Array.foldl_toList, Array.toList_zipIdx]
    have := fillRun (ρ x).cells.toList 0 0 ((Array.range (1 * n)).map (zv.cells[· % zv.cells.size]!)) (by simp; omega)
    rw [List.drop_eq_nil_of_le (by simp; omega)] at this
    simpa using this
  refine ⟨.slice (some ⟨w.heap.size, 0, none⟩) 1 1, w.alloc (.cells (ρ x).cells el), .val (.slice (some ⟨w.heap.size, 0, none⟩) 1 1), ?_, rfl, rfl, rfl, by simp, fun k hk => Below.heap_alloc _ _ _ hk, fun b hb => (by cases hb; exact Nat.le_refl _), fun β' hle hfr => ⟨?_, hfr, _, _, _, rfl⟩⟩
  · have h24 : ¬ 1 * n > 2 ^ 24 := by omega
    have h0' : ¬ 1 * n = 0 := by omega
    have e1 : (#[(0, x)].map fun (i, y) => (i, ρ y)) = #[(0, ρ x)] := by simp
    simp only [execOp, Instr.buildSlice, e1, Sem.run_bind, run_under h1, Result.andThen_ok, tySize_ok hn, if_neg h24, if_neg h0', hzr, Sem.run_pure, hfill, newRow, run_newObj]
    try rfl
  · obtain ⟨q1, q2⟩ := colsOf_ok hc
    refine ⟨by omega, .inr ⟨w.heap.size, 0, 1, rfl, by simp, Nat.le_refl _, fun i hi j c hcj => ?_, fun _ => ⟨rfl, by omega, _, heap_alloc_new w _, by simp; omega⟩⟩⟩
    have : i = 0 := by omega
    subst this
    obtain ⟨l, a1, a2⟩ := q2 j c hcj
    obtain ⟨y, b1, b2⟩ := hcells.get j l a1
    refine ⟨y, ?_, colOf_ok a2 b2 0⟩
    have hh := heap_alloc_new w (.cells (ρ x).cells el)
    simp only [World.cell?, hh, Option.isSome_none, Bool.false_eq_true, if_false]
    simpa using b1
end
end Go.Proofs.YtpdijogpbnaplaaDoorHz
