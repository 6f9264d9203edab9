/- The heap engine, third part: conditions of a text from its states, contracts of functions, calls, a row's arguments and its answer, the library's sort. It is about no program. -/
import Derived.Test.YtpdijogpbnaplaaDoorHzTwo
import Derived.ProofKit
import Derived.Deep.Slices
import Derived.Deep.Fields
import Derived.ChangeSame
import Derived.SizedLaws
import Derived.Sort.OwnSortedInts
import Derived.LaidMore
import Derived.MakeChecks
namespace Go.Proofs.YtpdijogpbnaplaaDoorHz
open Go Go.RowKit

inductive Out where
  | normal
  | ret
  | exit (id : Nat)
def Out.to : Out → Exit
  | .normal => .normal
  | .ret => .ret
  | .exit id => .exit id
def inBlk (id : Nat) : Out → Out
  | .exit j => if Nat.beq j id then .normal else .exit j
  | o => o

def L.ids : L → List Nat
  | .ptr id _ | .elt id _ _ _ _ | .lel id _ _ _ | .vec id | .sub id _ _ _ | .map id => [id]
  | .clo _ caps => caps.map (·.1)
  | .ifp _ id _ => [id]
  | _ => []
def W.ids : W → List Nat
  | .one l => l.ids
  | .agg ls => ls.flatMap L.ids
  | .arr _ _ _ => []
def V.ids : V → List Nat
  | .val w => w.ids
  | .tup ws => ws.flatMap W.ids
  | .opt _ v => v.ids
def Seg.ids : Seg → List Nat
  | .cells ls => ls.flatMap L.ids
  | .arr _ _ => []
def Ob.ids : Ob → List Nat
  | .mem _ segs => segs.flatMap Seg.ids
  | .itr _ mid _ _ _ => [mid]
  | _ => []
def L.hs : L → List Nat
  | .fptr id _ _ | .fsub id _ _ _ => [id]
  | l => l.ids
def W.hs : W → List Nat
  | .one l => l.hs
  | .agg ls => ls.flatMap L.hs
  | .arr _ _ _ => []
def V.hs : V → List Nat
  | .val w => w.hs
  | .tup ws => ws.flatMap W.hs
  | .opt _ v => v.hs
def Seg.hs : Seg → List Nat
  | .cells ls => ls.flatMap L.hs
  | .arr _ _ => []
def Col.hs : Col → List Nat
  | .fsubs id _ _ _ => [id]
  | _ => []
def KCol.hs : KCol → List Nat
  | .fptrs id _ => [id]
  | _ => []
def Ob.hs : Ob → List Nat
  | .mem _ segs => segs.flatMap Seg.hs
  | .mp _ _ _ _ cols | .mpl _ _ _ _ cols _ => cols.flatMap KCol.hs
  | .vec _ _ _ cols => cols.flatMap Col.hs
  | .itr _ mid _ _ _ => [mid]
  | _ => []
def Bm.on (l : List Nat) (β β' : Bm) : Prop := ∀ id ∈ l, ∀ p, β id = some p → β' id = some p
theorem capsRel_on {β β' : Bm} : ∀ {ps : List (Nat × Nat)} {xs : List Value}, Bm.on (ps.map (·.1)) β β' → capsRel β ps xs → capsRel β' ps xs
  | [], [], _, _ => trivial
  | p :: ps, x :: xs, h, ⟨⟨b, h1, h2⟩, h3⟩ => ⟨⟨b, h _ (by simp) _ h1, h2⟩, capsRel_on (fun id hid => h id (by simp at hid ⊢; exact .inr hid)) h3⟩
  | [], _ :: _, _, h => h.elim
  | _ :: _, [], _, h => h.elim
theorem L.rel_on {β β' : Bm} {l : L} (h : Bm.on l.ids β β') {x : Value} (hr : l.rel β x) : l.rel β' x := by
  cases l with
  | ptr id off => obtain ⟨b, h1, h2⟩ := hr; exact ⟨b, h id (by simp [L.ids]) _ h1, h2⟩
  | elt id base stride i off => obtain ⟨b, h1, h2⟩ := hr; exact ⟨b, h id (by simp [L.ids]) _ h1, h2⟩
  | lel id stride i off => obtain ⟨a, o, n, c, h1, h2⟩ := hr; exact ⟨a, o, n, c, h id (by simp [L.ids]) _ h1, h2⟩
  | vec id => exact ⟨h id (by simp [L.ids]) _ hr.1, hr.2⟩
  | sub id stride lo len => obtain ⟨x0, h1, h2⟩ := hr; exact ⟨x0, h id (by simp [L.ids]) _ h1, h2⟩
  | map id => obtain ⟨b, h1, h2⟩ := hr; exact ⟨b, h id (by simp [L.ids]) _ h1, h2⟩
  | clo f caps => obtain ⟨xs, h1, h2⟩ := hr; exact ⟨xs, h1, capsRel_on h h2⟩
  | ifp t id off => obtain ⟨b, h1, h2⟩ := hr; exact ⟨b, h id (by simp [L.ids]) _ h1, h2⟩
  | _ => exact hr
theorem all2_on {α : Type} {ids : α → List Nat} {R : Bm → α → Value → Prop} {β β' : Bm} (hR : ∀ a x, Bm.on (ids a) β β' → R β a x → R β' a x) : ∀ {ls : List α} {xs : List Value}, Bm.on (ls.flatMap ids) β β' → All2 (R β) ls xs → All2 (R β') ls xs
  | [], [], _, _ => trivial
  | l :: ls, x :: xs, h, ⟨h1, h2⟩ => ⟨hR l x (fun id hid => h id (by simp [hid])) h1, all2_on hR (fun id hid => h id (by simp only [List.flatMap_cons, List.mem_append]; exact .inr hid)) h2⟩
  | [], _ :: _, _, h => h.elim
  | _ :: _, [], _, h => h.elim
theorem W.rel_on {β β' : Bm} {w : W} (h : Bm.on w.ids β β') {x : Value} (hr : w.rel β x) : w.rel β' x := by
  cases w with
  | one l => exact L.rel_on h hr
  | agg ls => obtain ⟨cs, h1, h2⟩ := hr; exact ⟨cs, h1, all2_on (R := fun β => L.rel β) (fun _ _ h hr => L.rel_on h hr) h h2⟩
  | arr k n g => exact hr
theorem V.rel_on {β β' : Bm} : ∀ {v : V}, Bm.on v.ids β β' → ∀ {x : Value}, v.rel β x → v.rel β' x
  | .val _w, h, _x, hr => W.rel_on h hr
  | .tup _ws, h, _x, ⟨cs, h1, h2⟩ => ⟨cs, h1, all2_on (R := fun β => W.rel β) (fun _ _ h hr => W.rel_on h hr) h h2⟩
  | .opt _ v, h, _x, hr => ⟨fun hc => V.rel_on (v := v) h (hr.1 hc), hr.2⟩
theorem segsOk_on {β β' : Bm} {w : World} {b : Nat} : ∀ {segs : List Seg} {off : Nat}, Bm.on (segs.flatMap Seg.ids) β β' → segsOk β w b off segs → segsOk β' w b off segs
  | [], _, _, _ => trivial
  | .cells ls :: r, off, h, ⟨h1, h2⟩ => ⟨fun j l hl => by
      obtain ⟨x, k1, k2⟩ := h1 j l hl
      refine ⟨x, k1, L.rel_on (fun id hid => h id ?_) k2⟩
      simp only [List.flatMap_cons, List.mem_append, Seg.ids]
      exact .inl (List.mem_flatMap.2 ⟨l, List.mem_of_getElem? hl, hid⟩), segsOk_on (fun id hid => h id (by simp only [List.flatMap_cons, List.mem_append]; exact .inr hid)) h2⟩
  | .arr n cols :: r, off, h, ⟨h1, h2⟩ => ⟨h1, segsOk_on (fun id hid => h id (by simp only [List.flatMap_cons, List.mem_append]; exact .inr hid)) h2⟩
theorem Ob.ok_on {β β' : Bm} {w : World} : ∀ {o : Ob} {p : Pl}, Bm.on o.ids β β' → o.ok β w p → o.ok β' w p
  | .mem _own _segs, .blk _b, h, ⟨h1, h2, h3⟩ => ⟨h1, segsOk_on h h2, h3⟩
  | .mp _ _key _agg _has _cols, .blk _b, _, hk => hk
  | .mpl _ _key _agg _has _cols _, .blk _b, _, hk => hk
  | .itr _ _ _ _ _, .blk _b, h, ⟨h1, bm, sn, h2, h3⟩ => ⟨h1, bm, sn, h _ (by simp [Ob.ids]) _ h2, h3⟩
  | .rof _ _ _ _, _, _, hk => hk
  | .fam _ _ _ _ _ _, _, _, hk => hk
  | .mpl _ _ _ _ _ _, .val _, _, h => h.elim
  | .itr _ _ _ _ _, .val _, _, h => h.elim
  | .vec _own _e _n _cols, .val _x, _, hk => hk
  | .gone, _, _, _ => trivial
  | .mem _ _, .val _, _, h => h.elim
  | .mp _ _ _ _ _, .val _, _, h => h.elim
  | .vec _ _ _ _, .blk _, _, h => h.elim
def belowB (m : Nat) (l : List Nat) : Bool := l.all fun i => Nat.blt i m
theorem belowB_ok {m : Nat} {l : List Nat} (h : belowB m l = true) : ∀ i ∈ l, i < m := fun i hi => by
  have := List.all_eq_true.1 h i hi
  simpa using this

def hren (f : Nat → Nat) (i : Nat) : Nat := if Nat.beq i noHint then noHint else f i
def L.ren (f : Nat → Nat) : L → L
  | .ptr id off => .ptr (f id) off
  | .elt id base stride i off => .elt (f id) base stride i off
  | .lel id stride i off => .lel (f id) stride i off
  | .vec id => .vec (f id)
  | .sub id stride lo len => .sub (f id) stride lo len
  | .map id => .map (f id)
  | .fptr id b off => .fptr (hren f id) b off
  | .fsub id b lo n => .fsub (hren f id) b lo n
  | .clo fn caps => .clo fn (caps.map fun p => (f p.1, p.2))
  | .ifp t id off => .ifp t (f id) off
  | l => l
def W.ren (f : Nat → Nat) : W → W
  | .one l => .one (l.ren f)
  | .agg ls => .agg (ls.map (L.ren f))
  | .arr k n g => .arr k n g
def V.ren (f : Nat → Nat) : V → V
  | .val w => .val (w.ren f)
  | .tup ws => .tup (ws.map (W.ren f))
  | .opt c v => .opt c (v.ren f)
def Seg.ren (f : Nat → Nat) : Seg → Seg
  | .cells ls => .cells (ls.map (L.ren f))
  | .arr n cols => .arr n cols
def Col.ren (f : Nat → Nat) : Col → Col
  | .fsubs id bb lo ln => .fsubs (hren f id) bb lo ln
  | c => c
theorem Col.ren_rel {f : Nat → Nat} {c : Col} {i : Nat} {x : Value} (h : c.rel i x) : (c.ren f).rel i x := by cases c <;> exact h
theorem rowOk_ren {f : Nat → Nat} {w : World} {b off n : Nat} {cols : List Col} (h : rowOk w b off n cols) : rowOk w b off n (cols.map (Col.ren f)) := by
  intro i hi j c hc
  rw [List.getElem?_map] at hc
  cases h0 : cols[j]? with
  | none => rw [h0] at hc; cases hc
  | some c0 =>
    rw [h0] at hc; cases hc
    obtain ⟨x, h1, h2⟩ := h i hi j c0 h0
    exact ⟨x, by rw [List.length_map]; exact h1, Col.ren_rel h2⟩
def KCol.ren (f : Nat → Nat) : KCol → KCol
  | .fptrs id bb => .fptrs (hren f id) bb
  | c => c
theorem KCol.ren_rel {f : Nat → Nat} {c : KCol} {i : Int} {x : Value} (h : c.rel i x) : (c.ren f).rel i x := by cases c <;> exact h
theorem kval_ren {f : Nat → Nat} {agg : Bool} {cols : List KCol} {k : Int} {x : Value} (h : kval agg cols k x) : kval agg (cols.map (KCol.ren f)) k x := by
  unfold kval at h ⊢
  split at h
  · rename_i ha
    rw [if_pos ha]
    obtain ⟨cs, rfl, hsz, hc⟩ := h
    refine ⟨cs, rfl, by simpa using hsz, fun j c hcj => ?_⟩
    rw [List.getElem?_map] at hcj
    cases h0 : cols[j]? with
    | none => rw [h0] at hcj; cases hcj
    | some c0 =>
      rw [h0] at hcj; cases hcj
      obtain ⟨y, h1, h2⟩ := hc j c0 h0
      exact ⟨y, h1, KCol.ren_rel h2⟩
  · rename_i ha
    rw [if_neg ha]
    obtain ⟨c, rfl, hr⟩ := h
    exact ⟨c.ren f, rfl, KCol.ren_rel hr⟩
theorem mapOk_ren {f : Nat → Nat} {key : IntKind} {agg : Bool} {has : Int → Bool} {cols : List KCol} {es : Array MapEntry} {clock : Nat} (h : mapOk key agg has cols es clock) : mapOk key agg has (cols.map (KCol.ren f)) es clock :=
  ⟨fun e he => by
    obtain ⟨k, h1, h2, h3⟩ := h.keys e he
    exact ⟨k, h1, h2, kval_ren h3⟩, h.all, h.once, h.born, h.apart⟩
def Ob.ren (f : Nat → Nat) : Ob → Ob
  | .mem own segs => .mem own (segs.map (Seg.ren f))
  | .mp own k a has cols => .mp own k a has (cols.map (KCol.ren f))
  | .mpl own k a has cols g => .mpl own k a has (cols.map (KCol.ren f)) g
  | .vec own e n cols => .vec own e n (cols.map (Col.ren f))
  | .itr own mid g seen cur => .itr own (f mid) g seen cur
  | o => o
def RenOn (f : Nat → Nat) (l : List Nat) (β β' : Bm) : Prop := ∀ id ∈ l, ∀ p, β id = some p → β' (f id) = some p
theorem capsRel_ren {f : Nat → Nat} {β β' : Bm} : ∀ {ps : List (Nat × Nat)} {xs : List Value}, RenOn f (ps.map (·.1)) β β' → capsRel β ps xs → capsRel β' (ps.map fun p => (f p.1, p.2)) xs
  | [], [], _, _ => trivial
  | p :: ps, x :: xs, h, ⟨⟨b, h1, h2⟩, h3⟩ => ⟨⟨b, h _ (by simp) _ h1, h2⟩, capsRel_ren (fun id hid => h id (by simp at hid ⊢; exact .inr hid)) h3⟩
  | [], _ :: _, _, h => h.elim
  | _ :: _, [], _, h => h.elim
theorem L.rel_ren {f : Nat → Nat} {β β' : Bm} {l : L} (h : RenOn f l.ids β β') {x : Value} (hr : l.rel β x) : (l.ren f).rel β' x := by
  cases l with
  | ptr id off => obtain ⟨b, h1, h2⟩ := hr; exact ⟨b, h id (by simp [L.ids]) _ h1, h2⟩
  | elt id base stride i off => obtain ⟨b, h1, h2⟩ := hr; exact ⟨b, h id (by simp [L.ids]) _ h1, h2⟩
  | lel id stride i off => obtain ⟨a, o, n, c, h1, h2⟩ := hr; exact ⟨a, o, n, c, h id (by simp [L.ids]) _ h1, h2⟩
  | vec id => exact ⟨h id (by simp [L.ids]) _ hr.1, hr.2⟩
  | sub id stride lo len => obtain ⟨x0, h1, h2⟩ := hr; exact ⟨x0, h id (by simp [L.ids]) _ h1, h2⟩
  | map id => obtain ⟨b, h1, h2⟩ := hr; exact ⟨b, h id (by simp [L.ids]) _ h1, h2⟩
  | clo fn caps => obtain ⟨xs, h1, h2⟩ := hr; exact ⟨xs, h1, capsRel_ren h h2⟩
  | ifp t id off => obtain ⟨b, h1, h2⟩ := hr; exact ⟨b, h id (by simp [L.ids]) _ h1, h2⟩
  | _ => exact hr
theorem all2_ren {α : Type} {ids : α → List Nat} {g : α → α} {R : Bm → α → Value → Prop} {f : Nat → Nat} {β β' : Bm} (hR : ∀ a x, RenOn f (ids a) β β' → R β a x → R β' (g a) x) : ∀ {ls : List α} {xs : List Value}, RenOn f (ls.flatMap ids) β β' → All2 (R β) ls xs → All2 (R β') (ls.map g) xs
  | [], [], _, _ => trivial
  | l :: ls, x :: xs, h, ⟨h1, h2⟩ => ⟨hR l x (fun id hid => h id (by simp [hid])) h1, all2_ren hR (fun id hid => h id (by simp only [List.flatMap_cons, List.mem_append]; exact .inr hid)) h2⟩
  | [], _ :: _, _, h => h.elim
  | _ :: _, [], _, h => h.elim
theorem W.rel_ren {f : Nat → Nat} {β β' : Bm} {w : W} (h : RenOn f w.ids β β') {x : Value} (hr : w.rel β x) : (w.ren f).rel β' x := by
  cases w with
  | one l => exact L.rel_ren h hr
  | agg ls => obtain ⟨cs, h1, h2⟩ := hr; exact ⟨cs, h1, all2_ren (R := fun β => L.rel β) (fun _ _ h hr => L.rel_ren h hr) h h2⟩
  | arr k n g => exact hr
theorem V.rel_ren {f : Nat → Nat} {β β' : Bm} : ∀ {v : V}, RenOn f v.ids β β' → ∀ {x : Value}, v.rel β x → (v.ren f).rel β' x
  | .val _w, h, _x, hr => W.rel_ren h hr
  | .tup _ws, h, _x, ⟨cs, h1, h2⟩ => ⟨cs, h1, all2_ren (R := fun β => W.rel β) (fun _ _ h hr => W.rel_ren h hr) h h2⟩
  | .opt _ v, h, _x, hr => ⟨fun hc => V.rel_ren (v := v) h (hr.1 hc), hr.2⟩
theorem vs_ren {f : Nat → Nat} {β β' : Bm} {vs : List V} {xs : List Value} (h : RenOn f (vs.flatMap V.ids) β β') (hr : All2 (V.rel β) vs xs) : All2 (V.rel β') (vs.map (V.ren f)) xs :=
  all2_ren (R := fun β => V.rel β) (fun _ _ h hr => V.rel_ren h hr) h hr
theorem segsOk_ren {f : Nat → Nat} {β β' : Bm} {w : World} {b : Nat} : ∀ {segs : List Seg} {off : Nat}, RenOn f (segs.flatMap Seg.ids) β β' → segsOk β w b off segs → segsOk β' w b off (segs.map (Seg.ren f))
  | [], _, _, _ => trivial
  | .cells ls :: r, off, h, ⟨h1, h2⟩ => by
    refine ⟨fun j l hl => ?_, ?_⟩
    · simp only [List.getElem?_map] at hl
      cases hl0 : ls[j]? with
      | none => rw [hl0] at hl; cases hl
      | some l0 =>
        rw [hl0] at hl; cases hl
        obtain ⟨x, k1, k2⟩ := h1 j l0 hl0
        refine ⟨x, k1, L.rel_ren (fun id hid => h id ?_) k2⟩
        simp only [List.flatMap_cons, List.mem_append, Seg.ids]
        exact .inl (List.mem_flatMap.2 ⟨l0, List.mem_of_getElem? hl0, hid⟩)
    · rw [List.length_map]
      exact segsOk_ren (fun id hid => h id (by simp only [List.flatMap_cons, List.mem_append]; exact .inr hid)) h2
  | .arr n cols :: r, off, h, ⟨h1, h2⟩ => ⟨h1, segsOk_ren (fun id hid => h id (by simp only [List.flatMap_cons, List.mem_append]; exact .inr hid)) h2⟩
theorem Ob.ok_ren {f : Nat → Nat} {β β' : Bm} {w : World} : ∀ {o : Ob} {p : Pl}, RenOn f o.ids β β' → o.ok β w p → (o.ren f).ok β' w p
  | .mem _own _segs, .blk _b, h, ⟨h1, h2, h3⟩ => ⟨h1, segsOk_ren h h2, h3⟩
  | .mp _ _key _agg _has _cols, .blk _b, _, ⟨h1, es, clock, h2, h3⟩ => ⟨h1, es, clock, h2, mapOk_ren h3⟩
  | .mpl _ _key _agg _has _cols _, .blk _b, _, ⟨h1, es, h2, h3, h4⟩ => ⟨h1, es, h2, mapOk_ren h3, h4⟩
  | .itr _ _ _ _ _, .blk _b, h, ⟨h1, bm, sn, h2, h3⟩ => ⟨h1, bm, sn, h _ (by simp [Ob.ids]) _ h2, h3⟩
  | .rof _ _ _ _, _, _, hk => hk
  | .fam _ _ _ _ _ _, _, _, hk => hk
  | .mpl _ _ _ _ _ _, .val _, _, h => h.elim
  | .itr _ _ _ _ _, .val _, _, h => h.elim
  | .vec _own _e _n _cols, .val _x, _, ⟨h0, h1⟩ => by
    refine ⟨h0, ?_⟩
    rcases h1 with h1 | ⟨b, off, cap, k1, k2, k3, k4, k5⟩
    · exact .inl h1
    · exact .inr ⟨b, off, cap, k1, k2, k3, rowOk_ren k4, fun ho => by rw [List.length_map]; exact k5 ho⟩
  | .gone, _, _, _ => trivial
  | .mem _ _, .val _, _, h => h.elim
  | .mp _ _ _ _ _, .val _, _, h => h.elim
  | .vec _ _ _ _, .blk _, _, h => h.elim
theorem Ob.ren_foot (f : Nat → Nat) {o : Ob} {p : Pl} {b : Nat} : (o.ren f).foot p b ↔ o.foot p b := by cases o <;> exact Iff.rfl
theorem Ob.ren_own (f : Nat → Nat) (o : Ob) : (o.ren f).own = o.own := by cases o <;> rfl
theorem Ob.ren_gone (f : Nat → Nat) {o : Ob} (h : o ≠ .gone) : o.ren f ≠ .gone := by cases o <;> first | exact absurd rfl h | (intro e; cases e)
theorem Ob.gone_ren (f : Nat → Nat) {o : Ob} (h : o.ren f ≠ .gone) : o ≠ .gone := fun e => h (by rw [e]; rfl)

def andO : Option Prop → Option Prop → Option Prop
  | none, x => x
  | some p, none => some p
  | some p, some q => some (p ∧ q)
theorem andO_ok {a b : Option Prop} (h : holdsP (andO a b)) : holdsP a ∧ holdsP b := by
  cases a with
  | none => exact ⟨trivial, h⟩
  | some p => cases b with
    | none => exact ⟨h, trivial⟩
    | some q => exact h
def checkO : Bool → Option Prop
  | true => none
  | false => some False
theorem checkO_ok {b : Bool} (h : holdsP (checkO b)) : b = true := by
  cases b with
  | true => rfl
  | false => exact h.elim
def subN : N → N → Option Prop
  | .lit a, .lit b => checkO (decide (a = b))
  | a, b => some (a.v = b.v)
theorem subN_ok {a b : N} (h : holdsP (subN a b)) : a.v = b.v := by
  unfold subN at h
  split at h
  · have := checkO_ok h; simpa [N.v] using this
  · exact h
def subB : B → B → Option Prop
  | .lit a, .lit b => checkO (a == b)
  | a, b => some (a.v = b.v)
theorem subB_ok {a b : B} (h : holdsP (subB a b)) : a.v = b.v := by
  unfold subB at h
  split at h
  · have := checkO_ok h; simpa [B.v] using this
  · exact h
def subL : L → L → Option Prop
  | _, .junk => none
  | .int k e, .int k' e' => match kindEq k k' with
    | true => subN e e'
    | false => some False
  | .bool e, .bool e' => subB e e'
  | .ptr i o, .ptr i' o' => checkO (Nat.beq i i' && Nat.beq o o')
  | .ifp t i o, .ifp t' i' o' => checkO (Nat.beq t t' && Nat.beq i i' && Nat.beq o o')
  | .vec i, .vec i' => checkO (Nat.beq i i')
  | .map i, .map i' => checkO (Nat.beq i i')
  | .fptr _ b o, .fptr _ b' o' => some (b = b' ∧ o = o')
  | .fsub _ b o n, .fsub _ b' o' n' => some (b = b' ∧ o = o' ∧ n = n')
  | .lel i s k o, .lel i' s' k' o' => match Nat.beq i i' && Nat.beq s s' with
    | true => some (k = k' ∧ o = o')
    | false => some False
  | .sub i s k o, .sub i' s' k' o' => match Nat.beq i i' && Nat.beq s s' with
    | true => some (k = k' ∧ o = o')
    | false => some False
  | .elt i b s k o, .elt i' b' s' k' o' => match Nat.beq i i' && Nat.beq b b' && Nat.beq s s' with
    | true => some (k = k' ∧ o = o')
    | false => some False
  | l, l' => some (l = l')
theorem subL_ok {β : Bm} {l l' : L} (h : holdsP (subL l l')) {x : Value} (hx : l.rel β x) : l'.rel β x := by
  unfold subL at h
  split at h
  · trivial
  · split at h
    · rename_i hk
      have := kindEq_eq hk
      subst this
      simp only [L.rel] at hx ⊢; rw [hx, subN_ok h]
    · exact h.elim
  · simp only [L.rel] at hx ⊢; rw [hx, subB_ok h]
  · have hb := checkO_ok h
    simp only [Bool.and_eq_true] at hb
    rw [← Nat.eq_of_beq_eq_true hb.1, ← Nat.eq_of_beq_eq_true hb.2]; exact hx
  · have hb := checkO_ok h
    simp only [Bool.and_eq_true] at hb
    rw [← Nat.eq_of_beq_eq_true hb.1.1, ← Nat.eq_of_beq_eq_true hb.1.2, ← Nat.eq_of_beq_eq_true hb.2]; exact hx
  · rw [← Nat.eq_of_beq_eq_true (checkO_ok h)]; exact hx
  · rw [← Nat.eq_of_beq_eq_true (checkO_ok h)]; exact hx
  · obtain ⟨rfl, rfl⟩ := h; exact hx
  · obtain ⟨rfl, rfl, rfl⟩ := h; exact hx
  · split at h
    · rename_i hb
      simp only [Bool.and_eq_true] at hb
      obtain ⟨rfl, rfl⟩ := h
      rw [← Nat.eq_of_beq_eq_true hb.1, ← Nat.eq_of_beq_eq_true hb.2]; exact hx
    · exact h.elim
  · split at h
    · rename_i hb
      simp only [Bool.and_eq_true] at hb
      obtain ⟨rfl, rfl⟩ := h
      rw [← Nat.eq_of_beq_eq_true hb.1, ← Nat.eq_of_beq_eq_true hb.2]; exact hx
    · exact h.elim
  · split at h
    · rename_i hb
      simp only [Bool.and_eq_true] at hb
      obtain ⟨rfl, rfl⟩ := h
      rw [← Nat.eq_of_beq_eq_true hb.1.1, ← Nat.eq_of_beq_eq_true hb.1.2, ← Nat.eq_of_beq_eq_true hb.2]; exact hx
    · exact h.elim
  · have h : _ = _ := h
    rw [← h]; exact hx
def sub2 {α : Type} (f : α → α → Option Prop) : List α → List α → Option Prop
  | [], [] => none
  | l :: ls, l' :: ls' => andO (f l l') (sub2 f ls ls')
  | _, _ => some False
theorem sub2_all {α : Type} {f : α → α → Option Prop} {R : α → Value → Prop} (hf : ∀ a b x, holdsP (f a b) → R a x → R b x) : ∀ {ls ls' : List α}, holdsP (sub2 f ls ls') → ∀ {xs : List Value}, All2 R ls xs → All2 R ls' xs
  | [], [], _, xs, hx => hx
  | l :: r, l' :: r', h, xs, hx => by
    cases xs with
    | nil => exact hx.elim
    | cons x xs =>
      obtain ⟨h1, h2⟩ := andO_ok h
      exact ⟨hf _ _ _ h1 hx.1, sub2_all hf h2 hx.2⟩
  | [], _ :: _, h, _, _ => h.elim
  | _ :: _, [], h, _, _ => h.elim
theorem sub2_get {α : Type} {f : α → α → Option Prop} : ∀ {ls ls' : List α}, holdsP (sub2 f ls ls') → ls.length = ls'.length ∧ ∀ (j : Nat) (l' : α), ls'[j]? = some l' → ∃ l, ls[j]? = some l ∧ holdsP (f l l')
  | [], [], _ => ⟨rfl, fun j l' h => by simp at h⟩
  | l :: r, l' :: r', h => by
    obtain ⟨h1, h2⟩ := andO_ok h
    obtain ⟨k1, k2⟩ := sub2_get h2
    refine ⟨by simp [k1], fun j m hm => ?_⟩
    cases j with
    | zero => simp at hm; subst hm; exact ⟨l, rfl, h1⟩
    | succ j => simpa using k2 j m (by simpa using hm)
  | [], _ :: _, h => h.elim
  | _ :: _, [], h => h.elim
def subW : W → W → Option Prop
  | _, .one .junk => none
  | .one l, .one l' => subL l l'
  | .agg ls, .agg ls' => sub2 subL ls ls'
  | .arr k n g, .arr k' n' g' => match kindEq k k' with
    | true => some (n = n' ∧ ∀ j, j < n → g j = g' j)
    | false => some False
  | _, _ => some False
theorem subW_ok {β : Bm} {w w' : W} (h : holdsP (subW w w')) {x : Value} (hx : w.rel β x) : w'.rel β x := by
  unfold subW at h
  split at h
  · trivial
  · exact subL_ok h hx
  · obtain ⟨cs, h1, h2⟩ := hx; exact ⟨cs, h1, sub2_all (R := L.rel β) (fun _ _ _ h hx => subL_ok h hx) h h2⟩
  · split at h
    · rename_i hk
      have := kindEq_eq hk
      subst this
      obtain ⟨rfl, hg⟩ := h
      obtain ⟨cs, h1, h2, h3⟩ := hx
      exact ⟨cs, h1, h2, fun j hj => by rw [← hg j hj]; exact h3 j hj⟩
    · exact h.elim
  · exact h.elim
def subV : V → V → Option Prop
  | _, .val (.one .junk) => none
  | .val w, .val w' => subW w w'
  | .tup ws, .tup ws' => sub2 subW ws ws'
  | _, _ => some False
theorem subV_ok {β : Bm} {v v' : V} (h : holdsP (subV v v')) {x : Value} (hx : v.rel β x) : v'.rel β x := by
  unfold subV at h
  split at h
  · trivial
  · exact subW_ok h hx
  · obtain ⟨cs, h1, h2⟩ := hx; exact ⟨cs, h1, sub2_all (R := W.rel β) (fun _ _ _ h hx => subW_ok h hx) h h2⟩
  · exact h.elim
def subC (n : Nat) : Col → Col → Option Prop
  | .ints k g, .ints k' g' => match kindEq k k' with
    | true => some (∀ i, i < n → g i = g' i)
    | false => some False
  | .bools g, .bools g' => some (∀ i, i < n → g i = g' i)
  | .vals g, .vals g' => some (∀ i, i < n → g i = g' i)
  | .fsubs _ g o l, .fsubs _ g' o' l' => some (∀ i, i < n → g i = g' i ∧ o i = o' i ∧ l i = l' i)
  | _, _ => some False
theorem subC_ok {n : Nat} {c c' : Col} (h : holdsP (subC n c c')) {i : Nat} (hi : i < n) {x : Value} (hx : c.rel i x) : c'.rel i x := by
  unfold subC at h
  split at h
  · split at h
    · rename_i hk
      have := kindEq_eq hk
      subst this
      have h := h i hi
      simp only [Col.rel] at hx ⊢; rw [hx, h]
    · exact h.elim
  · have h := h i hi
    simp only [Col.rel] at hx ⊢; rw [hx, h]
  · have h := h i hi
    simp only [Col.rel] at hx ⊢; rw [hx, h]
  · obtain ⟨h1, h2, h3⟩ := h i hi
    simp only [Col.rel] at hx ⊢; rw [← h1, ← h2, ← h3]; exact hx
  · exact h.elim
theorem subCs_row {w : World} {b off n : Nat} {cols cols' : List Col} (h : holdsP (sub2 (subC n) cols cols')) (hr : rowOk w b off n cols) : rowOk w b off n cols' := by
  obtain ⟨h1, h2⟩ := sub2_get h
  intro i hi j c hc
  obtain ⟨c0, k1, k2⟩ := h2 j c hc
  obtain ⟨x, k3, k4⟩ := hr i hi j c0 k1
  exact ⟨x, by rw [← h1]; exact k3, subC_ok k2 hi k4⟩
def subS : List Seg → List Seg → Option Prop
  | [], [] => none
  | .cells ls :: r, .cells ls' :: r' => andO (sub2 subL ls ls') (subS r r')
  | .arr n cs :: r, .arr n' cs' :: r' => andO (some (n = n')) (andO (sub2 (subC n) cs cs') (subS r r'))
  | _, _ => some False
theorem subS_ok {β : Bm} {w : World} {b : Nat} : ∀ {segs segs' : List Seg} {off : Nat}, holdsP (subS segs segs') → segsOk β w b off segs → segsOk β w b off segs'
  | [], [], _, _, h => h
  | .cells ls :: r, .cells ls' :: r', off, h, ⟨k1, k2⟩ => by
    obtain ⟨h1, h2⟩ := andO_ok h
    obtain ⟨l1, l2⟩ := sub2_get h1
    refine ⟨fun j l' hl' => ?_, by rw [← l1]; exact subS_ok h2 k2⟩
    obtain ⟨l, m1, m2⟩ := l2 j l' hl'
    obtain ⟨x, x1, x2⟩ := k1 j l m1
    exact ⟨x, x1, subL_ok m2 x2⟩
  | .arr n cs :: r, .arr n' cs' :: r', off, h, ⟨k1, k2⟩ => by
    obtain ⟨h1, h2⟩ := andO_ok h
    obtain ⟨h2, h3⟩ := andO_ok h2
    have h1 : n = n' := h1
    subst h1
    exact ⟨subCs_row h2 k1, by rw [← (sub2_get h2).1]; exact subS_ok h3 k2⟩
  | [], .cells _ :: _, _, h, _ => h.elim
  | [], .arr _ _ :: _, _, h, _ => h.elim
  | .cells _ :: _, [], _, h, _ => h.elim
  | .arr _ _ :: _, [], _, h, _ => h.elim
  | .cells _ :: _, .arr _ _ :: _, _, h, _ => h.elim
  | .arr _ _ :: _, .cells _ :: _, _, h, _ => h.elim
def subK (has : Int → Bool) : KCol → KCol → Option Prop
  | .ints k g, .ints k' g' => match kindEq k k' with
    | true => some (∀ i, has i = true → g i = g' i)
    | false => some False
  | .bools g, .bools g' => some (∀ i, has i = true → g i = g' i)
  | .fptrs _ g, .fptrs _ g' => some (∀ i, has i = true → g i = g' i)
  | _, _ => some False
theorem subK_ok {has : Int → Bool} {c c' : KCol} (h : holdsP (subK has c c')) {i : Int} (hi : has i = true) {x : Value} (hx : c.rel i x) : c'.rel i x := by
  unfold subK at h
  split at h
  · split at h
    · rename_i hk
      have := kindEq_eq hk
      subst this
      have h := h i hi
      simp only [KCol.rel] at hx ⊢; rw [hx, h]
    · exact h.elim
  · have h := h i hi
    simp only [KCol.rel] at hx ⊢; rw [hx, h]
  · have h := h i hi
    simp only [KCol.rel] at hx ⊢; rw [hx, h]
  · exact h.elim
theorem kval_sub {has : Int → Bool} {agg : Bool} {cols cols' : List KCol} (h : holdsP (sub2 (subK has) cols cols')) {k : Int} (hk : has k = true) {x : Value} (hx : kval agg cols k x) : kval agg cols' k x := by
  obtain ⟨h1, h2⟩ := sub2_get h
  unfold kval at hx ⊢
  split at hx
  · rename_i ha
    rw [if_pos ha]
    obtain ⟨cs, rfl, hsz, hc⟩ := hx
    refine ⟨cs, rfl, by omega, fun j c hcj => ?_⟩
    obtain ⟨c0, k1, k2⟩ := h2 j c hcj
    obtain ⟨y, hy, hry⟩ := hc j c0 k1
    exact ⟨y, hy, subK_ok k2 hk hry⟩
  · rename_i ha
    rw [if_neg ha]
    obtain ⟨c0, rfl, hr⟩ := hx
    cases cols' with
    | nil => simp at h1
    | cons c r =>
      cases r with
      | cons _ _ => simp at h1
      | nil =>
        obtain ⟨c1, k1, k2⟩ := h2 0 c rfl
        simp at k1; subst k1
        exact ⟨c, rfl, subK_ok k2 hk hr⟩
def subO : Ob → Ob → Option Prop
  | _, .gone => none
  | .mem o segs, .mem o' segs' => match o == o' with
    | true => subS segs segs'
    | false => some False
  | .mp o k a has cols, .mp o' k' a' has' cols' => match o == o' && kindEq k k' && a == a' with
    | true => andO (some (∀ i, has i = has' i)) (sub2 (subK has) cols cols')
    | false => some False
  | .vec o e n cols, .vec o' e' n' cols' => match o == o' && Nat.beq e e' with
    | true => andO (some (n = n')) (sub2 (subC n) cols cols')
    | false => some False
  | .mpl o k a has cols _, .mp o' k' a' has' cols' => match o == o' && kindEq k k' && a == a' with
    | true => andO (some (∀ i, has i = has' i)) (sub2 (subK has) cols cols')
    | false => some False
  | .mpl o k a has cols g, .mpl o' k' a' has' cols' g' => match o == o' && kindEq k k' && a == a' with
    | true => andO (some ((∀ i, has i = has' i) ∧ g = g')) (sub2 (subK has) cols cols')
    | false => some False
  | .fam o e k len dom g, .fam o' e' k' len' dom' g' => match o == o' && Nat.beq e e' && kindEq k k' with
    | true => some (∀ b, dom' b = true → dom b = true ∧ len' b = len b ∧ ∀ j, j < len' b → g b j = g' b j)
    | false => some False
  | .rof k dom vis g, .rof k' dom' vis' g' => match kindEq k k' with
    | true => some (∀ b, dom' b = true → dom b = true ∧ ∀ j, vis' b j = true → vis b j = true ∧ g b j = g' b j)
    | false => some False
  | .itr o m g seen _, .itr o' m' g' seen' none => match o == o' && Nat.beq m m' with
    | true => some (g = g' ∧ ∀ i, g.dom i = true → seen i = seen' i)
    | false => some False
  | _, _ => some False
theorem mapOk_sub {key : IntKind} {agg : Bool} {has has' : Int → Bool} {cols cols' : List KCol} {es : Array MapEntry} {clock : Nat} (hh : ∀ i, has i = has' i) (hc : holdsP (sub2 (subK has) cols cols')) (h3 : mapOk key agg has cols es clock) : mapOk key agg has' cols' es clock :=
  ⟨fun e he => by
      obtain ⟨k, q1, q2, q3⟩ := h3.keys e he
      exact ⟨k, q1, by rw [← hh]; exact q2, kval_sub hc q2 q3⟩, fun k hk => h3.all k (by rw [hh]; exact hk), h3.once, h3.born, h3.apart⟩
theorem subO_ok {β : Bm} {w : World} {p : Pl} {o o' : Ob} (h : holdsP (subO o o')) (hok : o.ok β w p) : o'.ok β w p ∧ (o' ≠ .gone → o'.own = o.own ∧ o ≠ .gone ∧ ∀ b, o'.foot p b → o.foot p b) := by
  unfold subO at h
  split at h
  · exact ⟨trivial, fun h => absurd rfl h⟩
  · split at h
    · rename_i hb
      simp only [beq_iff_eq] at hb
      subst hb
      cases p with
      | val _ => exact hok.elim
      | blk b => exact ⟨⟨hok.1, subS_ok h hok.2.1, hok.2.2⟩, fun _ => ⟨rfl, (fun h => by cases h), fun _ h => h⟩⟩
    · exact h.elim
  · split at h
    · rename_i hb
      simp only [Bool.and_eq_true, beq_iff_eq] at hb
      obtain ⟨⟨rfl, hk⟩, rfl⟩ := hb
      have := kindEq_eq hk
      subst this
      obtain ⟨hh, hc⟩ := andO_ok h
      have hh : ∀ i, _ = _ := hh
      cases p with
      | val _ => exact hok.elim
      | blk b =>
        obtain ⟨h1, es, clock, h2, h3⟩ := hok
        exact ⟨⟨h1, es, clock, h2, mapOk_sub hh hc h3⟩, fun _ => ⟨rfl, (fun h => by cases h), fun _ h => h⟩⟩
    · exact h.elim
  · split at h
    · rename_i hb
      simp only [Bool.and_eq_true, beq_iff_eq] at hb
      obtain ⟨rfl, he⟩ := hb
      have := Nat.eq_of_beq_eq_true he
      subst this
      obtain ⟨hn, hc⟩ := andO_ok h
      have hn : _ = _ := hn
      subst hn
      cases p with
      | blk _ => exact hok.elim
      | val x =>
        obtain ⟨h0, h1⟩ := hok
        refine ⟨⟨h0, ?_⟩, fun _ => ⟨rfl, (fun h => by cases h), fun _ h => h⟩⟩
        rcases h1 with h1 | ⟨b, off, cap, q1, q2, q3, q4, q5⟩
        · exact .inl h1
        · exact .inr ⟨b, off, cap, q1, q2, q3, subCs_row hc q4, fun ho => by rw [← (sub2_get hc).1]; exact q5 ho⟩
    · exact h.elim
  · split at h
    · rename_i hb
      simp only [Bool.and_eq_true, beq_iff_eq] at hb
      obtain ⟨⟨rfl, hk⟩, rfl⟩ := hb
      have := kindEq_eq hk
      subst this
      obtain ⟨hh, hc⟩ := andO_ok h
      cases p with
      | val _ => exact hok.elim
      | blk b =>
        obtain ⟨h1, es, h2, h3, _⟩ := hok
        exact ⟨⟨h1, es, _, h2, mapOk_sub hh hc h3⟩, fun _ => ⟨rfl, (fun h => by cases h), fun _ h => h⟩⟩
    · exact h.elim
  · split at h
    · rename_i hb
      simp only [Bool.and_eq_true, beq_iff_eq] at hb
      obtain ⟨⟨rfl, hk⟩, rfl⟩ := hb
      have := kindEq_eq hk
      subst this
      obtain ⟨⟨hh, rfl⟩, hc⟩ := andO_ok h
      cases p with
      | val _ => exact hok.elim
      | blk b =>
        obtain ⟨h1, es, h2, h3, h4⟩ := hok
        exact ⟨⟨h1, es, h2, mapOk_sub hh hc h3, ⟨h4.at_, fun k hk => h4.dom k (by rw [hh]; exact hk), h4.inj⟩⟩, fun _ => ⟨rfl, (fun h => by cases h), fun _ h => h⟩⟩
    · exact h.elim
  · split at h
    · rename_i hb
      simp only [Bool.and_eq_true, beq_iff_eq] at hb
      obtain ⟨⟨rfl, he⟩, hk⟩ := hb
      have := Nat.eq_of_beq_eq_true he
      subst this
      have := kindEq_eq hk
      subst this
      refine ⟨fun b hb => ?_, fun _ => ⟨rfl, (fun h => by cases h), fun b hb => (h b hb).1⟩⟩
      obtain ⟨hd, hl, hg⟩ := h b hb
      obtain ⟨h1, h2, h3⟩ := hok b hd
      exact ⟨h1, fun j hj => by rw [← hg j hj]; exact h2 j (by omega), fun ho => by rw [hl]; exact h3 ho⟩
    · exact h.elim
  · split at h
    · rename_i hk
      have := kindEq_eq hk
      subst this
      refine ⟨fun b hb => ?_, fun _ => ⟨rfl, (fun h => by cases h), fun b hb => (h b hb).1⟩⟩
      obtain ⟨h1, h2⟩ := hok b (h b hb).1
      exact ⟨h1, fun j hj => by rw [← ((h b hb).2 j hj).2]; exact h2 j ((h b hb).2 j hj).1⟩
    · exact h.elim
  · split at h
    · rename_i hb
      simp only [Bool.and_eq_true, beq_iff_eq] at hb
      obtain ⟨rfl, hm⟩ := hb
      have := Nat.eq_of_beq_eq_true hm
      subst this
      obtain ⟨rfl, hs⟩ := h
      cases p with
      | val _ => exact hok.elim
      | blk b =>
        obtain ⟨h1, bm, sn, h2, h3, h4, _⟩ := hok
        exact ⟨⟨h1, bm, sn, h2, h3, fun k hk => by rw [← hs k hk]; exact h4 k hk, fun k hk => by cases hk⟩, fun _ => ⟨rfl, (fun h => by cases h), fun _ h => h⟩⟩
    · exact h.elim
  · exact h.elim
def subTs : List V → List V → Option Prop := sub2 subV
def subMs : List Ob → List Ob → Option Prop
  | _, [] => none
  | o :: os, o' :: os' => andO (subO o o') (subMs os os')
  | [], _ :: _ => some False
theorem subTs_get {ls ls' : List V} (h : holdsP (subTs ls ls')) : ls.length = ls'.length ∧ ∀ (j : Nat), holdsP (subV (lget (.val (.one .junk)) ls j) (lget (.val (.one .junk)) ls' j)) := by
  obtain ⟨h1, h2⟩ := sub2_get h
  refine ⟨h1, fun j => ?_⟩
  by_cases hj : j < ls'.length
  · obtain ⟨l, k1, k2⟩ := h2 j _ (List.getElem?_eq_getElem hj)
    simp only [lget_eq, List.getD_eq_getElem?_getD, k1, List.getElem?_eq_getElem hj, Option.getD_some]
    exact k2
  · simp only [lget_eq, List.getD_eq_getElem?_getD, List.getElem?_eq_none (by omega : ls'.length ≤ j), Option.getD_none]
    trivial
theorem subMs_get : ∀ {ls ls' : List Ob}, holdsP (subMs ls ls') → ∀ (j : Nat) (o' : Ob), ls'[j]? = some o' → ∃ o, ls[j]? = some o ∧ holdsP (subO o o')
  | _, [], _, j, o', h => by simp at h
  | o :: os, o0 :: os', h, j, o', ho' => by
    obtain ⟨h1, h2⟩ := andO_ok h
    cases j with
    | zero => simp at ho'; subst ho'; exact ⟨o, rfl, h1⟩
    | succ j => simpa using subMs_get h2 j o' (by simpa using ho')
  | [], _ :: _, h, _, _, _ => h.elim
def St.closed (σ : St) : Bool := σ.tmps.all (fun v => belowB σ.mem.length v.ids) && σ.mem.all (fun o => belowB σ.mem.length o.ids)
def toP : Option Prop → Prop
  | none => True
  | some p => p
theorem toP_ok {o : Option Prop} (h : toP o) : holdsP o := by cases o <;> exact h
def sub0 (E : Nat) (σ σ' : St) : Prop := match σ'.closed && Nat.ble E σ'.mem.length with
  | true => toP (andO (subTs σ.tmps σ'.tmps) (subMs σ.mem σ'.mem))
  | false => False
def trunc (m : Nat) (β : Bm) : Bm := fun i => if i < m then β i else none
theorem trunc_le (m : Nat) (β : Bm) : (trunc m β).le β := fun i p hp => by
  unfold trunc at hp
  split at hp
  · exact hp
  · cases hp
theorem trunc_on {m : Nat} {l : List Nat} (h : belowB m l = true) (β : Bm) : Bm.on l β (trunc m β) := fun id hid p hp => by
  have := belowB_ok h id hid
  unfold trunc
  rw [if_pos this]; exact hp
theorem sub_mem {X : Cx} {D : Dx} {β : Bm} {s : S} {a : Act} {w : World} (hB : RepB X D β s a w) {ms ms' : List Ob} (hs : s.blk = fun id => ms[id]?) (hm : holdsP (subMs ms ms')) (hcl : ∀ o ∈ ms', belowB ms'.length o.ids = true) (hG : X.G.length ≤ ms'.length) :
    (∀ id o, ms'[id]? = some o → ∃ p, trunc ms'.length β id = some p ∧ o.ok (trunc ms'.length β) w p ∧ (o.own = true → D.may o p)) ∧ (∀ id p, trunc ms'.length β id = some p → ∃ o, ms'[id]? = some o) ∧
    (∀ id id' o o' p p' b, ms'[id]? = some o → ms'[id']? = some o' → o.own = true → o' ≠ .gone → trunc ms'.length β id = some p → trunc ms'.length β id' = some p' → o.foot p b → o'.foot p' b → id = id') ∧
    (∀ i g, X.G[i]? = some g → trunc ms'.length β i = some (.blk g.1)) := by
  have hm := subMs_get hm
  refine ⟨fun id o ho => ?_, fun id p hp => ?_, fun i i' o o' p p' b ho ho' how hng hp hp' hf hf' => ?_, fun i g hg => ?_⟩
  · obtain ⟨o0, k1, k2⟩ := hm id o ho
    obtain ⟨p, q1, q2, q3⟩ := hB.mem id o0 (by rw [hs]; exact k1)
    obtain ⟨r1, r2⟩ := subO_ok k2 q2
    have hlt : id < ms'.length := (List.getElem?_eq_some_iff.1 ho).1
    refine ⟨p, by unfold trunc; rw [if_pos hlt]; exact q1, Ob.ok_on (trunc_on (hcl o (List.mem_of_getElem? ho)) β) r1, fun how => ?_⟩
    obtain ⟨e1, _, e3⟩ := r2 (fun e => by rw [e] at how; cases how)
    exact fun b hb => q3 (by rw [← e1]; exact how) b (e3 b hb)
  · unfold trunc at hp
    split at hp
    · rename_i hlt; exact ⟨_, List.getElem?_eq_getElem hlt⟩
    · cases hp
  · obtain ⟨o1, k1, k2⟩ := hm i o ho
    obtain ⟨o2, k3, k4⟩ := hm i' o' ho'
    obtain ⟨pp, q1, q2, _⟩ := hB.mem i o1 (by rw [hs]; exact k1)
    obtain ⟨pp', q3, q4, _⟩ := hB.mem i' o2 (by rw [hs]; exact k3)
    have e1 := (subO_ok k2 q2).2 (fun e => by rw [e] at how; cases how)
    have e2 := (subO_ok k4 q4).2 hng
    have p1 := trunc_le _ _ _ _ hp
    have p2 := trunc_le _ _ _ _ hp'
    rw [q1] at p1; cases p1
    rw [q3] at p2; cases p2
    exact hB.inj i i' o1 o2 _ _ b (by rw [hs]; exact k1) (by rw [hs]; exact k3) (by rw [← e1.1]; exact how) e2.2.1 q1 q3 (e1.2.2 b hf) (e2.2.2 b hf')
  · obtain ⟨k1, _⟩ := hB.glob i g hg
    have : i < X.G.length := (List.getElem?_eq_some_iff.1 hg).1
    unfold trunc
    rw [if_pos (by omega)]; exact k1
theorem sub0_rep {X : Cx} {D : Dx} {E : Nat} {σ σ' : St} (h : sub0 E σ σ') (hb0 : ∀ i p, D.b0 i = some p → i < E) (hG : X.G.length ≤ E) (hn : σ.tmps.length = X.n) {a : Act} {w : World} (hR : Rep X D (view σ) a w) : Rep X D (view σ') a w ∧ σ'.tmps.length = X.n := by
  unfold sub0 at h
  split at h
  · rename_i hcl
    simp only [Bool.and_eq_true] at hcl
    obtain ⟨hcl, hE⟩ := hcl
    have hE := Nat.le_of_ble_eq_true hE
    unfold St.closed at hcl
    simp only [Bool.and_eq_true, List.all_eq_true] at hcl
    obtain ⟨hc, β, hb, hB⟩ := hR
    obtain ⟨hs1, hs2⟩ := andO_ok (toP_ok h)
    obtain ⟨t1, t2⟩ := subTs_get hs1
    obtain ⟨m1, m2, m3, m4⟩ := sub_mem hB rfl hs2 hcl.2 (by omega)
    refine ⟨⟨hc, trunc σ'.mem.length β, fun i p hp => ?_, ?_⟩, by omega⟩
    · unfold trunc
      rw [if_pos (by have := hb0 i p hp; omega)]; exact hb i p hp
    · refine ⟨hB.size, fun t => ?_, hB.defers, m1, m2, m3, fun i g hg => ?_⟩
      · have h1 := subV_ok (t2 t) (hB.tmps t)
        by_cases htl : t < σ'.tmps.length
        · refine V.rel_on (trunc_on ?_ β) h1
          simp only [view, lget_eq, List.getD_eq_getElem?_getD, List.getElem?_eq_getElem htl, Option.getD_some]
          exact hcl.1 _ (List.getElem_mem htl)
        · simp only [view, lget_eq, List.getD_eq_getElem?_getD, List.getElem?_eq_none (by omega : σ'.tmps.length ≤ t), Option.getD_none]
          trivial
      · obtain ⟨_, k2, k3, k4⟩ := hB.glob i g hg
        exact ⟨m4 i g hg, k2, k3, k4⟩
  · exact h.elim

def zipIds : List Nat → List Nat → List (Nat × Nat)
  | k :: ks, j :: js => (k, j) :: zipIds ks js
  | _, _ => []
def pairV (a b : V) : List (Nat × Nat) := zipIds a.hs b.hs
def pairTs : List V → List V → List (Nat × Nat)
  | a :: as, b :: bs => pairV a b ++ pairTs as bs
  | _, _ => []
def pairs (hm sm : List Ob) : Nat → List (Nat × Nat) → List (Nat × Nat) → List (Nat × Nat)
  | 0, _, acc => acc
  | _ + 1, [], acc => acc
  | n + 1, p :: r, acc => if acc.any (fun q => Nat.beq q.1 p.1) then pairs hm sm n r acc else (match hm[p.1]?, sm[p.2]? with
    | some o, some o' => pairs hm sm n (zipIds o.hs o'.hs ++ r) (p :: acc)
    | _, _ => pairs hm sm n r acc)
def toOld (ps : List (Nat × Nat)) (k : Nat) : Nat := match ps with
  | [] => k
  | p :: r => if Nat.beq p.1 k then p.2 else toOld r k
def toNew (ps : List (Nat × Nat)) (j : Nat) : Nat := match ps with
  | [] => j
  | p :: r => if Nat.beq p.2 j then p.1 else toNew r j
def isGone : Option Ob → Bool
  | some .gone => true
  | _ => false
def okId (ps : List (Nat × Nat)) (m : Nat) (j : Nat) : Bool := Nat.blt (toNew ps j) m && Nat.beq (toOld ps (toNew ps j)) j
def renT (ps : List (Nat × Nat)) (m : Nat) (v : V) : V := if v.ids.all (okId ps m) then v.ren (toNew ps) else .val (.one .junk)
def takeObs (tm : List Ob) (ps : List (Nat × Nat)) (m : Nat) (sm : List Ob) : Nat → Nat → Option (List Ob)
  | 0, _ => some []
  | n + 1, k => match sm[toOld ps k]? with
    | some o => (match isGone tm[k]? with
      | true => (match takeObs tm ps m sm n (k + 1) with | some r => some (.gone :: r) | none => none)
      | false => if o.ids.all (okId ps m) then (match takeObs tm ps m sm n (k + 1) with | some r => some (o.ren (toNew ps) :: r) | none => none) else none)
    | none => none
def distinct (tm : List Ob) : Nat → Nat → List (Nat × Nat) → List Nat → Bool
  | 0, _, _, _ => true
  | n + 1, k, ps, seen => match isGone tm[k]? with
    | true => distinct tm n (k + 1) ps seen
    | false => !seen.any (Nat.beq (toOld ps k)) && distinct tm n (k + 1) ps (toOld ps k :: seen)
def fixedTo (ps : List (Nat × Nat)) : Nat → Bool
  | 0 => true
  | n + 1 => Nat.beq (toOld ps n) n && fixedTo ps n
def idPairs : Nat → List (Nat × Nat)
  | 0 => []
  | n + 1 => idPairs n ++ [(n, n)]
def goneLast (tm : List Ob) (ps : List (Nat × Nat)) : List (Nat × Nat) := ps.filter (fun p => !isGone tm[p.1]?) ++ ps.filter (fun p => isGone tm[p.1]?)
def renSt1 (E : Nat) (gp : List (Nat × Nat)) (σ σ' : St) : Option St := match goneLast σ'.mem (pairs σ'.mem σ.mem 1024 (idPairs E ++ pairTs σ'.tmps σ.tmps) [] ++ gp) with
  | ps => match takeObs σ'.mem ps σ'.mem.length σ.mem σ'.mem.length 0 with
    | some ms => if distinct σ'.mem σ'.mem.length 0 ps [] && fixedTo ps E && Nat.ble E σ'.mem.length then some ⟨σ.tmps.map (renT ps σ'.mem.length), ms⟩ else none
    | none => none
theorem takeObs_ok {tm : List Ob} {ps : List (Nat × Nat)} {m : Nat} {sm : List Ob} : ∀ {n k : Nat} {ms : List Ob}, takeObs tm ps m sm n k = some ms → ms.length = n ∧ ∀ (i : Nat) (o' : Ob), ms[i]? = some o' → ∃ o, sm[toOld ps (k + i)]? = some o ∧
    ((isGone tm[k + i]? = true ∧ o' = .gone) ∨ (isGone tm[k + i]? = false ∧ o.ids.all (okId ps m) = true ∧ o' = o.ren (toNew ps)))
  | 0, k, ms, h => by cases h; exact ⟨rfl, fun i o h => by simp at h⟩
  | n + 1, k, ms, h => by
    unfold takeObs at h
    split at h
    · rename_i o ho
      split at h
      · rename_i hg
        split at h
        · rename_i r hr
          cases h
          obtain ⟨k1, k2⟩ := takeObs_ok hr
          refine ⟨by simp [k1], fun i o' hi => ?_⟩
          cases i with
          | zero => simp at hi; subst hi; exact ⟨o, ho, .inl ⟨hg, rfl⟩⟩
          | succ i =>
            obtain ⟨o2, q1, q2⟩ := k2 i o' (by simpa using hi)
            rw [show k + (i + 1) = k + 1 + i by omega]
            exact ⟨o2, q1, q2⟩
        · cases h
      · rename_i hg
        split at h
        · rename_i hok
          split at h
          · rename_i r hr
            cases h
            obtain ⟨k1, k2⟩ := takeObs_ok hr
            refine ⟨by simp [k1], fun i o' hi => ?_⟩
            cases i with
            | zero => simp at hi; subst hi; exact ⟨o, ho, .inr ⟨hg, hok, rfl⟩⟩
            | succ i =>
              obtain ⟨o2, q1, q2⟩ := k2 i o' (by simpa using hi)
              rw [show k + (i + 1) = k + 1 + i by omega]
              exact ⟨o2, q1, q2⟩
          · cases h
        · cases h
    · cases h
theorem distinct_ok {tm : List Ob} : ∀ {n k : Nat} {ps : List (Nat × Nat)} {seen : List Nat}, distinct tm n k ps seen = true → (∀ i, k ≤ i → i < k + n → isGone tm[i]? = false → ∀ x ∈ seen, toOld ps i ≠ x) ∧
    ∀ i j, k ≤ i → i < k + n → k ≤ j → j < k + n → isGone tm[i]? = false → isGone tm[j]? = false → toOld ps i = toOld ps j → i = j
  | 0, k, ps, seen, _ => ⟨fun i h1 h2 => by omega, fun i j h1 h2 => by omega⟩
  | n + 1, k, ps, seen, h => by
    unfold distinct at h
    split at h
    · rename_i hg
      obtain ⟨k1, k2⟩ := distinct_ok h
      refine ⟨fun i a b hi x hx => ?_, fun i j a b c d hi hj e => ?_⟩
      · rcases Nat.eq_or_lt_of_le a with rfl | hlt
        · rw [hg] at hi; cases hi
        · exact k1 i (by omega) (by omega) hi x hx
      · rcases Nat.eq_or_lt_of_le a with rfl | hlt
        · rw [hg] at hi; cases hi
        · rcases Nat.eq_or_lt_of_le c with rfl | hlt2
          · rw [hg] at hj; cases hj
          · exact k2 i j (by omega) (by omega) (by omega) (by omega) hi hj e
    · simp only [Bool.and_eq_true, Bool.not_eq_true', List.any_eq_false] at h
      obtain ⟨h1, h2⟩ := h
      obtain ⟨k1, k2⟩ := distinct_ok h2
      have hno : ∀ x ∈ seen, toOld ps k ≠ x := fun x hx e => by
        have := h1 x hx
        rw [e, Nat.beq_refl] at this; exact this rfl
      refine ⟨fun i a b hgi x hx => ?_, fun i j a b c d hgi hgj e => ?_⟩
      · rcases Nat.eq_or_lt_of_le a with rfl | hlt
        · exact hno x hx
        · exact k1 i (by omega) (by omega) hgi x (by simp [hx])
      · rcases Nat.eq_or_lt_of_le a with rfl | hi
        · rcases Nat.eq_or_lt_of_le c with rfl | hj
          · rfl
          · exact absurd e.symm (k1 j (by omega) (by omega) hgj _ (by simp))
        · rcases Nat.eq_or_lt_of_le c with rfl | hj
          · exact absurd e (k1 i (by omega) (by omega) hgi _ (by simp))
          · exact k2 i j (by omega) (by omega) (by omega) (by omega) hgi hgj e
theorem fixedTo_ok {ps : List (Nat × Nat)} : ∀ {n : Nat}, fixedTo ps n = true → ∀ i, i < n → toOld ps i = i
  | 0, _, i, h => by omega
  | n + 1, h, i, hi => by
    simp only [fixedTo, Bool.and_eq_true] at h
    by_cases e : i = n
    · subst e; exact Nat.eq_of_beq_eq_true h.1
    · exact fixedTo_ok h.2 i (by omega)
theorem renSt1_ok {X : Cx} {D : Dx} {E : Nat} {gp : List (Nat × Nat)} {σ σ' σ2 : St} (h : renSt1 E gp σ σ' = some σ2) (hb0 : ∀ i p, D.b0 i = some p → i < E) (hG : X.G.length ≤ E) {a : Act} {w : World} (hR : Rep X D (view σ) a w) : Rep X D (view σ2) a w ∧ σ2.tmps.length = σ.tmps.length := by
  unfold renSt1 at h
  generalize goneLast σ'.mem (pairs σ'.mem σ.mem 1024 (idPairs E ++ pairTs σ'.tmps σ.tmps) [] ++ gp) = ps at h
  simp only at h
  split at h
  · rename_i ms hms
    split at h
    · rename_i hc
      simp only [Bool.and_eq_true] at hc
      cases h
      obtain ⟨⟨hd, hf⟩, hE⟩ := hc
      have hE := Nat.le_of_ble_eq_true hE
      obtain ⟨hl, ho⟩ := takeObs_ok hms
      obtain ⟨_, hdis⟩ := distinct_ok hd
      have hfix := fixedTo_ok hf
      obtain ⟨hcg, β, hb, hB⟩ := hR
      let m := σ'.mem.length
      let β2 : Bm := fun k => if k < m then β (toOld ps k) else none
      have hβ2 : ∀ k, k < m → β2 k = β (toOld ps k) := fun k hk => by show (if k < m then _ else _) = _; rw [if_pos hk]
      have hren : ∀ l : List Nat, l.all (okId ps m) = true → RenOn (toNew ps) l β β2 := fun l hl id hid p hp => by
        have h1 := List.all_eq_true.1 hl id hid
        simp only [okId, Bool.and_eq_true] at h1
        have h2 : toNew ps id < m := by simpa using h1.1
        rw [hβ2 _ h2, Nat.eq_of_beq_eq_true h1.2]; exact hp
      have hobj : ∀ id o', ms[id]? = some o' → id < m ∧ ∃ o, σ.mem[toOld ps id]? = some o ∧ ((isGone σ'.mem[id]? = true ∧ o' = .gone) ∨ (isGone σ'.mem[id]? = false ∧ o.ids.all (okId ps m) = true ∧ o' = o.ren (toNew ps))) := fun id o' hid => by
        have hlt := (List.getElem?_eq_some_iff.1 hid).1
        obtain ⟨o, h1, h2⟩ := ho id o' hid
        rw [Nat.zero_add] at h1 h2
        exact ⟨by omega, o, h1, h2⟩
      refine ⟨⟨hcg, β2, fun i p hp => ?_, ⟨hB.size, fun t => ?_, hB.defers, fun id o' hid => ?_, fun id p hp => ?_, fun i i' o o' p p' b hi hi' how hng hp hp' hff hff' => ?_, fun i g hg => ?_⟩⟩, by simp⟩
      · have := hb0 i p hp
        rw [hβ2 i (by omega), hfix i this]; exact hb i p hp
      · simp only [view, lget_eq, List.getD_eq_getElem?_getD, List.getElem?_map]
        have h1 := hB.tmps t
        simp only [view, lget_eq, List.getD_eq_getElem?_getD] at h1
        cases hv : σ.tmps[t]? with
        | none => simp only [Option.map_none, Option.getD_none]; trivial
        | some v =>
          rw [hv] at h1
          simp only [Option.map_some, Option.getD_some] at h1 ⊢
          unfold renT
          split
          · rename_i hall; exact V.rel_ren (hren _ hall) h1
          · trivial
      · simp only [view] at hid
        obtain ⟨hlt, o, h1, h2⟩ := hobj id o' hid
        obtain ⟨p, q1, q2, q3⟩ := hB.mem _ o (by simpa [view] using h1)
        rcases h2 with ⟨_, rfl⟩ | ⟨_, h2, rfl⟩
        · exact ⟨p, by rw [hβ2 id hlt]; exact q1, trivial, fun how => by cases how⟩
        · exact ⟨p, by rw [hβ2 id hlt]; exact q1, Ob.ok_ren (hren _ h2) q2, fun how b hb => q3 (by rw [Ob.ren_own] at how; exact how) b ((Ob.ren_foot _).1 hb)⟩
      · have hp2 : (if id < m then β (toOld ps id) else none) = some p := hp
        split at hp2
        · rename_i hlt; exact ⟨_, by simp only [view]; exact List.getElem?_eq_getElem (by omega)⟩
        · cases hp2
      · simp only [view] at hi hi'
        obtain ⟨l1, o1, h1, e1⟩ := hobj i o hi
        obtain ⟨l2, o2, h2, e2⟩ := hobj i' o' hi'
        rcases e1 with ⟨_, rfl⟩ | ⟨g1, _, rfl⟩
        · cases how
        rcases e2 with ⟨_, rfl⟩ | ⟨g2, _, rfl⟩
        · exact absurd rfl hng
        rw [hβ2 i l1] at hp
        rw [hβ2 i' l2] at hp'
        rw [Ob.ren_own] at how
        have := hB.inj _ _ o1 o2 p p' b (by simpa [view] using h1) (by simpa [view] using h2) how (Ob.gone_ren _ hng) hp hp' ((Ob.ren_foot _).1 hff) ((Ob.ren_foot _).1 hff')
        exact hdis i i' (Nat.zero_le _) (by omega) (Nat.zero_le _) (by omega) g1 g2 this
      · obtain ⟨k1, k2, k3, k4⟩ := hB.glob i g hg
        have : i < X.G.length := (List.getElem?_eq_some_iff.1 hg).1
        exact ⟨by rw [hβ2 i (by omega), hfix i (by omega)]; exact k1, k2, k3, k4⟩
    · cases h
  · cases h
def ghosts (ps : List (Nat × Nat)) : Nat → Nat → List Ob → List (Nat × Nat) × List Ob
  | _, _, [] => ([], [])
  | k, base, o :: os => match o with
    | .fam true e kd len _ _ => (match ps.any (fun p => Nat.beq p.1 k) with
      | true => ghosts ps (k + 1) base os
      | false => ((k, base) :: (ghosts ps (k + 1) (base + 1) os).1, .fam true e kd len (fun _ => false) (fun _ _ => 0) :: (ghosts ps (k + 1) (base + 1) os).2))
    | _ => ghosts ps (k + 1) base os
def isGhost (o : Ob) : Prop := ∃ e kd len, o = .fam true e kd len (fun _ => false) (fun _ _ => 0)
theorem ghosts_ok {ps : List (Nat × Nat)} : ∀ {tm : List Ob} {k base : Nat}, ∀ o ∈ (ghosts ps k base tm).2, isGhost o
  | [], _, _, o, h => by cases h
  | o0 :: os, k, base, o, h => by
    unfold ghosts at h
    split at h
    · split at h
      · exact ghosts_ok o h
      · rcases List.mem_cons.1 h with rfl | h
        · exact ⟨_, _, _, rfl⟩
        · exact ghosts_ok o h
    · exact ghosts_ok o h
theorem ghost_rep {X : Cx} {D : Dx} {a : Act} {w : World} : ∀ {go : List Ob} {σ : St}, (∀ o ∈ go, isGhost o) → Rep X D (view σ) a w → Rep X D (view ⟨σ.tmps, σ.mem ++ go⟩) a w
  | [], σ, _, h => by simpa using h
  | o :: go, σ, hg, h => by
    obtain ⟨e, kd, len, rfl⟩ := hg o List.mem_cons_self
    obtain ⟨hc, β, hb, hB⟩ := h
    have hfree : (view σ).blk σ.mem.length = none := by simp [view]
    obtain ⟨hle, hB1⟩ := hB.fresh hfree (o := .fam true e kd len (fun _ => false) (fun _ _ => 0)) (p := .blk 0) (Nat.le_trans hc.base hc.size) (fun b hb => by cases hb) (fun b hb => by cases hb)
    have e1 : (⟨(view σ).tmp, upd (view σ).blk (look [(σ.mem.length, some (.fam true e kd len (fun _ => false) (fun _ _ => 0)))])⟩ : S) = view ⟨σ.tmps, σ.mem ++ [.fam true e kd len (fun _ => false) (fun _ _ => 0)]⟩ := by
      unfold view
      congr 1
      funext i
      simp only [upd_one]
      split
      · rename_i hi; subst hi; simp
      · rename_i hi
        rcases Nat.lt_or_ge i σ.mem.length with h1 | h1
        · rw [List.getElem?_append_left h1]
        · rw [List.getElem?_eq_none h1, List.getElem?_eq_none (by simp; omega)]
    rw [e1] at hB1
    have := ghost_rep (go := go) (σ := ⟨σ.tmps, σ.mem ++ [.fam true e kd len (fun _ => false) (fun _ _ => 0)]⟩) (fun o ho => hg o (List.mem_cons_of_mem _ ho)) ⟨hc, _, Bm.le_trans hb hle, hB1⟩
    simpa using this
def renSt (E : Nat) (σ σ' : St) : Option St := match ghosts (pairs σ'.mem σ.mem 1024 (idPairs E ++ pairTs σ'.tmps σ.tmps) []) 0 σ.mem.length σ'.mem with
  | (gp, go) => match go with
    | [] => renSt1 E [] σ σ'
    | go => renSt1 E gp ⟨σ.tmps, σ.mem ++ go⟩ σ'
theorem renSt_ok {X : Cx} {D : Dx} {E : Nat} {σ σ' σ2 : St} (h : renSt E σ σ' = some σ2) (hb0 : ∀ i p, D.b0 i = some p → i < E) (hG : X.G.length ≤ E) {a : Act} {w : World} (hR : Rep X D (view σ) a w) : Rep X D (view σ2) a w ∧ σ2.tmps.length = σ.tmps.length := by
  have hgo : ∀ o ∈ (ghosts (pairs σ'.mem σ.mem 1024 (idPairs E ++ pairTs σ'.tmps σ.tmps) []) 0 σ.mem.length σ'.mem).2, isGhost o := ghosts_ok
  unfold renSt at h
  split at h
  rename_i gp go hq
  rw [hq] at hgo
  split at h
  · exact renSt1_ok h hb0 hG hR
  · exact renSt1_ok h hb0 hG (ghost_rep hgo hR)
def sub (E : Nat) (σ σ' : St) : Prop := match renSt E σ σ' with
  | some σ2 => sub0 E σ2 σ'
  | none => False
theorem sub_rep {X : Cx} {D : Dx} {E : Nat} {σ σ' : St} (h : sub E σ σ') (hb0 : ∀ i p, D.b0 i = some p → i < E) (hG : X.G.length ≤ E) (hn : σ.tmps.length = X.n) {a : Act} {w : World} (hR : Rep X D (view σ) a w) : Rep X D (view σ') a w ∧ σ'.tmps.length = X.n := by
  unfold sub at h
  split at h
  · rename_i σ2 h2
    obtain ⟨h3, h4⟩ := renSt_ok h2 hb0 hG hR
    exact sub0_rep h hb0 hG (by omega) h3
  · exact h.elim

structure Ann where
  X : Type
  st : St → X → St
  I : St → X → Prop
  μ : X → Nat
structure Anns where
  loops : List Ann
  cuts : List (Nat × Ann)
  joins : List (Nat × Ann)
  rels : List Nat
  picks : List (Nat × Nat)
  rounds : List (Nat × Nat)
  alts : List (Nat × Ann)
def famMark : Nat := 1000000000
def openOp (rels : List Nat) (o : Oper) : Bool := match o.op with
  | .call c => (match c.callee with
    | .value (.func f) => rels.any (Nat.beq f)
    | _ => false)
  | .alloc t | .box t _ | .makeSlice t _ _ => rels.any (Nat.beq (famMark + t))
  | _ => false
def readyFor (ops : List Oper) (done : List Nat) (i : Nat) : Bool := (predsOf ops i).all fun j => done.any (Nat.beq j)
def reckon (ops : List Oper) (rl : Oper → Bool) : Nat → List Nat → List Nat → List Nat
  | 0, _, done => done
  | n + 1, left, done => match left.find? (fun i => readyFor ops done i && (match ops[i]? with | some o => !rl o | none => false)) with
    | some i => reckon ops rl n (left.filter fun j => !Nat.beq i j) (done ++ [i])
    | none => match left.find? (readyFor ops done) with
      | some i => reckon ops rl n (left.filter fun j => !Nat.beq i j) (done ++ [i])
      | none => done
def orderOf (ops : List Oper) (rl : Oper → Bool) : List Nat := if ops.any rl then reckon ops rl ops.length (List.range ops.length) [] else List.range ops.length
def onceN : List Nat → Bool
  | [] => true
  | x :: r => !r.any (Nat.beq x) && onceN r
theorem onceN_ok : ∀ {l : List Nat}, onceN l = true → ∀ (i j x : Nat), l[i]? = some x → l[j]? = some x → i = j
  | [], _, i, j, x, h, _ => by simp at h
  | y :: r, hn, i, j, x, hi, hj => by
    simp only [onceN, Bool.and_eq_true, Bool.not_eq_true', List.any_eq_false] at hn
    have hno : ∀ k, r[k]? = some y → False := fun k hk => by
      have := hn.1 y (List.mem_of_getElem? hk)
      rw [Nat.beq_refl] at this; exact this rfl
    cases i with
    | zero =>
      cases j with
      | zero => rfl
      | succ j => simp at hi hj; subst hi; exact (hno j hj).elim
    | succ i =>
      cases j with
      | zero => simp at hi hj; subst hj; exact (hno i hi).elim
      | succ j => simp at hi hj; rw [onceN_ok hn.2 i j x hi hj]
def laterOk (bs : List Nat) (ops : List Oper) (rl : Oper → Bool) : List Nat → Bool
  | [] => true
  | i :: r => (match ops[i]? with | some o => !rl o || r.all (fun j => waits bs j i) | none => true) && laterOk bs ops rl r
theorem laterOk_ok {bs : List Nat} {ops : List Oper} {rl : Oper → Bool} : ∀ {pi : List Nat}, laterOk bs ops rl pi = true → ∀ p q i j : Nat, openAt ops rl pi p = true → p < q → pi[p]? = some i → pi[q]? = some j → waits bs j i = true
  | [], _, p, q, i, j, _, _, hi, _ => by simp at hi
  | x :: r, h, p, q, i, j, ho, hpq, hi, hj => by
    simp only [laterOk, Bool.and_eq_true] at h
    cases q with
    | zero => omega
    | succ q =>
      cases p with
      | zero =>
        simp at hi; subst hi
        unfold openAt at ho
        simp only [List.getElem?_cons_zero] at ho
        have h1 := h.1
        split at ho
        · rename_i o hoo
          rw [hoo] at h1
          simp only [ho, Bool.not_true, Bool.false_or] at h1
          exact List.all_eq_true.1 h1 j (List.mem_of_getElem? (by simpa using hj))
        · cases ho
      | succ p =>
        exact laterOk_ok h.2 p q i j (by unfold openAt at ho ⊢; simpa using ho) (by omega) (by simpa using hi) (by simpa using hj)
def orderOk (ops : List Oper) (rl : Oper → Bool) (pi : List Nat) : Bool :=
  Nat.beq pi.length ops.length && (pi.all fun i => Nat.blt i ops.length) && onceN pi && ((List.range ops.length).all fun i => pi.any (Nat.beq i)) && earlier ops && laterOk (befores ops) ops rl pi
noncomputable def stepSeq (P : Program) (G : List (Nat × List L)) (call : CallH) (n : Nat) (ops : Array Oper) (pks : List (Nat × Nat)) (K : Kn → List V → List Ob → Prop) (o : Oper) (kn : Kn) (ts : List V) (ms : List Ob) : Prop :=
  match (match guardC ops.toList (view ⟨ts, ms⟩) kn o with
      | none => none
      | some c => (match specOf P G call (view ⟨ts, ms⟩) kn o ms.length c with
        | none => none
        | some q => (match appT n ts o.dst (.opt c q.2.v) with
          | none => none
          | some ts' => some (c, q, ts')))) with
    | some (_, q, ts') => andP q.1 (K (knOff kn o.dst) ts' ms)
    | none => match wantedBy ops.toList (view ⟨ts, ms⟩) kn o with
      | none => False
      | some l => allG (fun want kn' => match want with
        | true => (match argsOf G (view ⟨ts, ms⟩) kn' o.op.operands.toList with
          | none => False
          | some args => (match dynOf P o.op args (view ⟨ts, ms⟩) ms.length with
            | some d => ∀ x, pickOr DPath.g (pickAt pks o.dst) (allD (fun e => match appT n ts o.dst e.v, appM ms e.wr with
              | some ts', some ms' => K (knOff kn' o.dst) ts' ms'
              | _, _ => False)) (d.f x)
            | none => (match effsB P call o.op o.type args (view ⟨ts, ms⟩) ms.length with
              | none => False
              | some ps => pickOr Path.g (pickAt pks o.dst) (allP (dstIn n o.dst) (fun e => match appT n ts o.dst e.v, appM ms e.wr with
                | some ts', some ms' => K (knOff kn' o.dst) ts' ms'
                | _, _ => False)) ps)))
        | false => (match appT n ts o.dst undefV with
          | some ts' => K (knOff kn' o.dst) ts' ms
          | none => False)) l
def cutAt (cuts : List (Nat × Ann)) (o : Oper) : Option Ann := match o.dst with
  | none => none
  | some t => match cuts.find? (fun p => Nat.beq p.1 t) with
    | some p => some p.2
    | none => none
noncomputable def runSeq (P : Program) (G : List (Nat × List L)) (call : CallH) (n E : Nat) (cuts : List (Nat × Ann)) (pks : List (Nat × Nat)) (ops : Array Oper) (K : List V → List Ob → Prop) : List Oper → Kn → List V → List Ob → Prop
  | [], _, ts, ms => K ts ms
  | o :: rest, kn, ts, ms => match cutAt cuts o with
    | none => stepSeq P G call n ops pks (runSeq P G call n E cuts pks ops K rest) o kn ts ms
    | some A => (∃ x, A.I ⟨ts, ms⟩ x ∧ sub E ⟨ts, ms⟩ (A.st ⟨ts, ms⟩ x)) ∧ ∀ x, A.I ⟨ts, ms⟩ x → stepSeq P G call n ops pks (runSeq P G call n E cuts pks ops K rest) o [] (A.st ⟨ts, ms⟩ x).tmps (A.st ⟨ts, ms⟩ x).mem
noncomputable def genRegion (P : Program) (G : List (Nat × List L)) (call : CallH) (n : Nat) (E : Nat) (anns : Anns) (ops : Array Oper) (draw : Bool) (σ : St) (K : St → Prop) : Prop :=
  match draw with
  | true => (match orderOf ops.toList (openOp anns.rels) with
    | pi => (match P.follows .mixedOrders && orderOk ops.toList (openOp anns.rels) pi with
      | true => runOps P G call n ops pi (openOp anns.rels) anns.picks (fun ts ms ws => match orderedG (befores ops.toList) pi ws with
        | true => K ⟨ts, ms⟩
        | false => False) pi [] σ.tmps σ.mem []
      | false => False))
  | false => runSeq P G call n E anns.cuts anns.picks ops (fun ts ms => K ⟨ts, ms⟩) ops.toList [] σ.tmps σ.mem
def assigned : Code → List Nat
  | .region _ ops _ => ops.toList.filterMap (·.dst)
  | .seq a b | .cond _ a b => assigned a ++ assigned b
  | .block _ c | .loop c => assigned c
  | _ => []
def dropOpt : V → V
  | .opt _ _ => .val (.one .junk)
  | v => v
noncomputable def junkAt : List Nat → St → St
  | [], σ => ⟨σ.tmps.map dropOpt, σ.mem⟩
  | i :: r, σ => junkAt r ⟨lset (.val (.one .junk)) σ.tmps i, σ.mem⟩
noncomputable def setT : List (Nat × V) → St → St
  | [], σ => σ
  | p :: r, σ => setT r ⟨lset p.2 σ.tmps p.1, σ.mem⟩
noncomputable def setM : List (Nat × Ob) → St → St
  | [], σ => σ
  | p :: r, σ => setM r ⟨σ.tmps, lset p.2 σ.mem p.1⟩
def addM (l : List Ob) (σ : St) : St := ⟨σ.tmps, σ.mem ++ l⟩
def intIn : V → Int
  | .val (.one (.int _ e)) => e.v
  | _ => 0
def blkIn : V → Nat
  | .val (.one (.fptr _ b _)) => b
  | .val (.one (.fsub _ b _ _)) => b
  | _ => 0
noncomputable def slotB (σ : St) (t : Nat) : Nat := blkIn (lget (.val (.one .junk)) σ.tmps t)
noncomputable def slotI (σ : St) (t : Nat) : Int := intIn (lget (.val (.one .junk)) σ.tmps t)
def obN : Option Ob → Nat
  | some (.vec _ _ n _) => n
  | _ => 0
def vecN (σ : St) (id : Nat) : Nat := obN σ.mem[id]?
def vecIn : V → Nat
  | .val (.one (.vec id)) => id
  | _ => 0
noncomputable def vecO (σ : St) (t : Nat) : Nat := vecIn (lget (.val (.one .junk)) σ.tmps t)
def obF : Option Ob → Nat → Int
  | some (.vec _ _ _ [.ints _ f]) => f
  | _ => fun _ => 0
def vecF (σ : St) (id : Nat) : Nat → Int := obF σ.mem[id]?
def loopsIn : Code → Nat
  | .seq a b | .cond _ a b => loopsIn a + loopsIn b
  | .block _ c => loopsIn c
  | .loop c => loopsIn c + 1
  | _ => 0
def firstDst : Code → Option Nat
  | .region _ ops _ => match ops.toList with
    | o :: _ => o.dst
    | [] => none
  | .seq x _ => firstDst x
  | .block _ c => firstDst c
  | _ => none
def joinAt (js : List (Nat × Ann)) (c : Code) : Option Ann := match firstDst c with
  | none => none
  | some t => match js.find? (fun p => Nat.beq p.1 t) with
    | some p => some p.2
    | none => none
def pickC (pks : List (Nat × Nat)) (c : Operand) (x y : Code) : Option Nat := match (match c with
    | .tmp t => pickAt pks (some (1000000 + t))
    | _ => none) with
  | some b => some b
  | none => match (match firstDst y with
      | some d => pickAt pks (some (2000000 + d))
      | none => none) with
    | some b => some b
    | none => match firstDst x with
      | some d => pickAt pks (some (3000000 + d))
      | none => none
def roundsAt (rs : List (Nat × Nat)) (k : Nat) : Option Nat := match rs.find? (fun p => Nat.beq p.1 k) with
  | some p => some p.2
  | none => none
def iterG (step : St → (Out → St → Prop) → Prop) (K : Out → St → Prop) : Nat → St → Prop
  | 0, _ => False
  | m + 1, σ => step σ (fun o σ' => match o with
    | .normal => iterG step K m σ'
    | .ret => K .ret σ'
    | .exit id => K (.exit id) σ')
def altsAt (as : List (Nat × Ann)) (k : Nat) : List Ann := (as.filter (fun p => Nat.beq p.1 k)).map (·.2)
noncomputable def headIn (E : Nat) (σ0 σ : St) (b : Option Nat) : List Ann → Prop
  | [] => False
  | A :: r => (∃ x, A.I σ0 x ∧ (match b with
    | some m => A.μ x < m
    | none => True) ∧ sub E σ (A.st σ0 x)) ∨ headIn E σ0 σ b r
def roundA (σ0 : St) (body : St → Nat → Prop) : List Ann → Prop
  | [] => True
  | A :: r => (∀ x, A.I σ0 x → body (A.st σ0 x) (A.μ x)) ∧ roundA σ0 body r
theorem headIn_ok {E : Nat} {σ0 σ : St} {b : Option Nat} : ∀ {As : List Ann}, headIn E σ0 σ b As → ∃ A ∈ As, ∃ x, A.I σ0 x ∧ (∀ m, b = some m → A.μ x < m) ∧ sub E σ (A.st σ0 x)
  | [], h => h.elim
  | A :: r, h => by
    rcases h with ⟨x, h1, h2, h3⟩ | h
    · exact ⟨A, List.mem_cons_self, x, h1, fun m hm => by subst hm; exact h2, h3⟩
    · obtain ⟨A', k1, k2⟩ := headIn_ok h
      exact ⟨A', List.mem_cons_of_mem _ k1, k2⟩
theorem roundA_ok {σ0 : St} {body : St → Nat → Prop} : ∀ {As : List Ann}, roundA σ0 body As → ∀ A ∈ As, ∀ x, A.I σ0 x → body (A.st σ0 x) (A.μ x)
  | [], _, _, h, _, _ => by cases h
  | A :: r, ⟨h1, h2⟩, A', hA, x, hx => by
    rcases List.mem_cons.1 hA with rfl | hA
    · exact h1 x hx
    · exact roundA_ok h2 A' hA x hx
noncomputable def gen (P : Program) (G : List (Nat × List L)) (call : CallH) (n E : Nat) (anns : Anns) : Code → Nat → St → (Out → St → Prop) → Prop
  | .skip, _, σ, K => K .normal σ
  | .label _, _, σ, K => K .normal σ
  | .ret, _, σ, K => K .ret σ
  | .exit id, _, σ, K => K (.exit id) σ
  | .region _ ops d, _, σ, K => genRegion P G call n E anns ops d σ (fun σ' => K .normal σ')
  | .seq x y, k, σ, K => match joinAt anns.joins y with
    | none => gen P G call n E anns x k σ (fun o σ' => match o with
      | .normal => gen P G call n E anns y (k + loopsIn x) σ' K
      | .ret => K .ret σ'
      | .exit id => K (.exit id) σ')
    | some A => gen P G call n E anns x k σ (fun o σ' => match o with
      | .normal => ∃ z, A.I (junkAt (assigned x) σ) z ∧ sub E σ' (A.st (junkAt (assigned x) σ) z)
      | .ret => K .ret σ'
      | .exit id => K (.exit id) σ') ∧ ∀ z, A.I (junkAt (assigned x) σ) z → gen P G call n E anns y (k + loopsIn x) (A.st (junkAt (assigned x) σ) z) K
  | .cond c x y, k, σ, K => match opnd G (view σ) c with
    | some (.val (.one (.bool (.lit true)))) => gen P G call n E anns x k σ K
    | some (.val (.one (.bool (.lit false)))) => gen P G call n E anns y (k + loopsIn x) σ K
    | some (.val (.one (.bool (.tm b)))) => (match pickC anns.picks c x y with
      | none => (b = true → gen P G call n E anns x k σ K) ∧ (b = false → gen P G call n E anns y (k + loopsIn x) σ K)
      | some 0 => (b = false) ∧ gen P G call n E anns y (k + loopsIn x) σ K
      | some _ => (b = true) ∧ gen P G call n E anns x k σ K)
    | _ => False
  | .block id c, k, σ, K => gen P G call n E anns c k σ (fun o σ' => K (inBlk id o) σ')
  | .loop c, k, σ, K => match roundsAt anns.rounds k with
    | some m => iterG (fun σ K => gen P G call n E anns c (k + 1) σ K) K m σ
    | none => match anns.loops[k]? with
    | some A => match altsAt anns.alts k with
     | B :: Bs => headIn E (junkAt (assigned c) σ) σ none (A :: B :: Bs) ∧ roundA (junkAt (assigned c) σ) (fun s m => gen P G call n E anns c (k + 1) s (fun o σ' => match o with
      | .normal => headIn E (junkAt (assigned c) σ) σ' (some m) (A :: B :: Bs)
      | .ret => K .ret σ'
      | .exit id => K (.exit id) σ')) (A :: B :: Bs)
     | [] => (∃ x, A.I (junkAt (assigned c) σ) x ∧ sub E σ (A.st (junkAt (assigned c) σ) x)) ∧ ∀ x, A.I (junkAt (assigned c) σ) x → gen P G call n E anns c (k + 1) (A.st (junkAt (assigned c) σ) x) (fun o σ' => match o with
      | .normal => ∃ y, A.I (junkAt (assigned c) σ) y ∧ A.μ y < A.μ x ∧ sub E σ' (A.st (junkAt (assigned c) σ) y)
      | .ret => K .ret σ'
      | .exit id => K (.exit id) σ')
    | none => False
  | _, _, _, _ => False

theorem least_of {p : Nat → Prop} (h : ∃ m, p m) : ∃ m, p m ∧ ∀ k, p k → m ≤ k := by
  obtain ⟨m, hm⟩ := h
  induction m using Nat.strongRecOn with
  | _ m ih =>
    by_cases hk : ∃ k, k < m ∧ p k
    · obtain ⟨k, h1, h2⟩ := hk; exact ih k h1 h2
    · exact ⟨m, hm, fun k hp => Nat.le_of_not_lt fun hl => hk ⟨k, hl, hp⟩⟩
section
variable {P : Program} {X : Cx}
theorem stepSeq_ok {call : CallH} (hcall : CallHOk P X call) {ops : Array Oper} {pks : List (Nat × Nat)} {K : Kn → List V → List Ob → Prop} {D : Dx} {Q : Exit → Act → World → Prop} {o : Oper} {rest : List Oper} {kn : Kn} {ts : List V} {ms : List Ob} (h : stepSeq P X.G call X.n ops pks K o kn ts ms) (hkn : KnOk kn (view ⟨ts, ms⟩)) (hn : ts.length = X.n)
    (hK : ∀ kn' ts' ms', K kn' ts' ms' → KnOk kn' (view ⟨ts', ms'⟩) → ts'.length = X.n → ∀ a w, Rep X D (view ⟨ts', ms'⟩) a w → wpList P ops Q rest a w) {a : Act} {w : World} (hR : Rep X D (view ⟨ts, ms⟩) a w) : wpList P ops Q (o :: rest) a w := by
    unfold stepSeq at h
    refine wpList_step fun K' hK' => ?_
    -- behind an operation that did as it is told
    have fin : ∀ (kn' : Kn) (e : Eff) (ts' : List V) (ms' : List Ob), KnOk kn' (view ⟨ts, ms⟩) → appT X.n ts o.dst e.v = some ts' → appM ms e.wr = some ms' → K (knOff kn' o.dst) ts' ms' →
        ∀ a' w', Rep X D ⟨upd (view ⟨ts, ms⟩).tmp (look (wrT o.dst e.v)), upd (view ⟨ts, ms⟩).blk (look e.wr)⟩ a' w' → K' a' w' := by
      intro kn' e ts' ms' hpk k1 k2 k3 a' w' hR'
      obtain ⟨t1, t2, _⟩ := appT_ok hn k1
      obtain ⟨m1, _⟩ := appM_ok k2
      have happ : (⟨upd (view ⟨ts, ms⟩).tmp (look (wrT o.dst e.v)), upd (view ⟨ts, ms⟩).blk (look e.wr)⟩ : S) = view ⟨ts', ms'⟩ := by
        unfold view; simp only; rw [t1, m1]
      rw [happ] at hR'
      exact hK' a' w' (hK _ ts' ms' k3 (by rw [← happ]; exact knOff_ok hpk o.dst e.v _) t2 a' w' hR')
    split at h
    · rename_i c q ts' hsp
      split at hsp
      · cases hsp
      · rename_i c' hgc
        split at hsp
        · cases hsp
        · rename_i q' hq
          split at hsp
          · cases hsp
          · rename_i ts'' hts
            cases hsp
            obtain ⟨hn1, h1⟩ := andP_ok h
            obtain ⟨_, _, t3⟩ := appT_ok hn hts
            exact spec_step hcall hkn hgc hq hn1 t3 D _ ⟨fun _ _ => rfl, fun _ _ => rfl⟩ a w hR K' Q (fun a' w' hR' => fin kn ⟨.opt c q.2.v, q.2.rd, []⟩ ts' ms hkn hts rfl h1 a' w' hR')
    split at h
    · exact h.elim
    · rename_i l hl
      obtain ⟨p, hpm, hpg, hpk, hpw⟩ := wantedBy_ok (X := X) hkn hl
      have h1 := impP_ok (allG_mem h p hpm) hpg
      rw [hpw D _ a w hR (fun _ _ => rfl)]
      split at h1
      · rename_i hwant
        rw [hwant, if_pos rfl]
        split at h1
        · exact h1.elim
        · rename_i args hargs
          obtain ⟨hC0, β, hb0, hB⟩ := hR
          have hav := argsOf_ok hB (kn := p.2.2) (fun t _ b hb => knAt_ok hpk hb) hargs
          split at h1
          · rename_i d hd
            have hdst : ∀ t, o.dst = some t → t < X.n := by
              intro t ht
              obtain ⟨x, q, hqm, hqg, hq⟩ := dynOf_ok (X := ⟨X.G, X.n⟩) (view_free ts ms _ (Nat.le_refl _)) hd { o with dst := none } rfl (fun t h => by cases h) D a w β hC0 hb0 hB hav
              obtain ⟨_, h1x, hqm⟩ := pickOr_ok (h1 x) q hqm hqg
              obtain ⟨hqn, h3⟩ := andP_ok (impP_ok (allD_mem h1x q hqm) hqg)
              split at h3
              · rename_i ts' ms' k1 k2
                exact (appT_ok hn k1).2.2 t ht
              · exact h3.elim
            obtain ⟨x, q, hqm, hqg, hq⟩ := dynOf_ok (X := X) (view_free ts ms _ (Nat.le_refl _)) hd o rfl hdst D a w β hC0 hb0 hB hav
            obtain ⟨_, h1x, hqm⟩ := pickOr_ok (h1 x) q hqm hqg
            obtain ⟨hqn, h3⟩ := andP_ok (impP_ok (allD_mem h1x q hqm) hqg)
            split at h3
            · rename_i ts' ms' k1 k2
              exact hq hqn K' Q (fin _ q.e ts' ms' hpk k1 k2 h3)
            · exact h3.elim
          · split at h1
            · exact h1.elim
            · rename_i ps hps
              obtain ⟨q, hqm, hqg, hqe⟩ := effsB_ok (X := X) hcall (view_free ts ms) hps
              obtain ⟨_, h1, hqm⟩ := pickOr_ok h1 q hqm hqg
              obtain ⟨hqn, h3⟩ := andP_ok (impP_ok (allP_mem h1 q hqm) hqg)
              have hqe := hqe hqn
              obtain ⟨qg, qn, qe⟩ := q
              cases qe with
              | det e =>
                simp only [outE] at h3
                split at h3
                · rename_i ts' ms' k1 k2
                  obtain ⟨t1, t2, t3⟩ := appT_ok hn k1
                  exact hqe o rfl t3 D _ a w β hC0 hb0 hB hav (fun _ _ => rfl) (fun _ _ => rfl) K' Q (fin _ e ts' ms' hpk k1 k2 h3)
                · exact h3.elim
              | rel T rd wi post e =>
                simp only [outE] at h3
                split at h3
                case h_2 => exact h3.elim
                rename_i t3
                refine hqe o rfl (dstIn_ok t3) D _ a w β hC0 hb0 hB hav (fun _ _ => rfl) (fun _ _ => rfl) K' Q (fun x hx a' w' hR' => ?_)
                have h4 := impP_ok (h3 x) hx
                split at h4
                · rename_i ts' ms' k1 k2
                  exact fin _ ⟨(e x).1, rd, (e x).2⟩ ts' ms' hpk k1 k2 h4 a' w' hR'
                · exact h4.elim
      · rename_i hwant
        rw [hwant]
        simp only [Bool.false_eq_true, if_false]
        split at h1
        · rename_i ts' k1
          obtain ⟨t1, t2, t3⟩ := appT_ok hn k1
          obtain ⟨hc, β, hb, hB⟩ := hR
          exact fin _ ⟨undefV, [], []⟩ ts' ms hpk k1 rfl h1 _ _ ⟨hc, β, hb, hB.put t3 (undefV_ok β)⟩
        · exact h1.elim

theorem runSeq_ok {call : CallH} (hcall : CallHOk P X call) {E : Nat} (hG : X.G.length ≤ E) {cuts : List (Nat × Ann)} {pks : List (Nat × Nat)} {ops : Array Oper} {K : List V → List Ob → Prop} {D : Dx} (hD : ∀ i p, D.b0 i = some p → i < E) {Q : Exit → Act → World → Prop} (hend : ∀ ts ms a w, K ts ms → ts.length = X.n → Rep X D (view ⟨ts, ms⟩) a w → Q .normal a w) :
    ∀ (rest : List Oper) (kn : Kn) (ts : List V) (ms : List Ob), runSeq P X.G call X.n E cuts pks ops K rest kn ts ms → KnOk kn (view ⟨ts, ms⟩) → ts.length = X.n → ∀ a w, Rep X D (view ⟨ts, ms⟩) a w → wpList P ops Q rest a w
  | [], kn, ts, ms, h, _, hn, a, w, hR => hend ts ms a w h hn hR
  | o :: rest, kn, ts, ms, h, hkn, hn, a, w, hR => by
    unfold runSeq at h
    split at h
    · exact stepSeq_ok hcall h hkn hn (fun kn' ts' ms' h1 h2 h3 a' w' h4 => runSeq_ok hcall hG hD hend rest kn' ts' ms' h1 h2 h3 a' w' h4) hR
    · rename_i A _
      obtain ⟨⟨x, hI, hs⟩, hall⟩ := h
      obtain ⟨r1, r2⟩ := sub_rep hs hD hG hn hR
      exact stepSeq_ok hcall (hall x hI) (fun p hp => by cases hp) r2 (fun kn' ts' ms' h1 h2 h3 a' w' h4 => runSeq_ok hcall hG hD hend rest kn' ts' ms' h1 h2 h3 a' w' h4) r1

theorem genRegion_ok {call : CallH} (hcall : CallHOk P X call) {E : Nat} (hG : X.G.length ≤ E) {anns : Anns} {ops : Array Oper} {draw : Bool} {σ : St} {K : St → Prop} (h : genRegion P X.G call X.n E anns ops draw σ K) (hn : σ.tmps.length = X.n) :
    ∀ (id : Nat) (Q : Exit → Act → World → Prop) D, (∀ i p, D.b0 i = some p → i < E) → ∀ a w, Rep X D (view σ) a w → (∀ σ' a' w', K σ' → σ'.tmps.length = X.n → Rep X D (view σ') a' w' → Q .normal a' w') → (Code.region id ops draw).wp P Q a w := by
  unfold genRegion at h
  cases draw with
  | true =>
    simp only at h
    generalize orderOf ops.toList (openOp anns.rels) = pi at h
    split at h
    · rename_i hc
      simp only [orderOk, Bool.and_eq_true] at hc
      obtain ⟨hfol, ⟨⟨⟨⟨hpl, hpb⟩, hpn⟩, hps⟩, hearl⟩, hlater⟩ := hc
      have hpl : pi.length = ops.size := by have := Nat.eq_of_beq_eq_true hpl; simpa using this
      obtain ⟨WS, hst⟩ := runOps_ok hcall _ _ _ _ _ h (fun p hp => by cases hp) hn
      intro id Q D hD a w hR hQ
      have hfinK : ∀ ws, WS ws → ws.length = pi.length → orderedG (befores ops.toList) pi ws = true ∧ ∃ ts' ms', K ⟨ts', ms'⟩ ∧ ts'.length = X.n ∧ textSt (view σ) ws pi.length = view ⟨ts', ms'⟩ := fun ws hw hl => by
        obtain ⟨ts', ms', k1, k2, k3⟩ := hst.fin ws hw hl
        split at k1
        · rename_i ho; exact ⟨by simpa using ho, ts', ms', k1, k2, k3⟩
        · exact k1.elim
      have hord : ∀ ws, WS ws → orderedG (befores ops.toList) pi ws = true := fun ws hw => by
        obtain ⟨k1, k2⟩ := hst.len ws hw
        rcases Nat.lt_or_ge ws.length pi.length with h' | h'
        · have := (k2 h').2; simpa using this
        · exact (hfinK ws hw (by omega)).1
      have hopenE : ∀ (p i : Nat) (o : Oper), pi[p]? = some i → ops.toList[i]? = some o → openAt ops.toList (openOp anns.rels) pi p = openOp anns.rels o := fun p i o hp ho => by
        unfold openAt; rw [hp]; simp only [ho]
      obtain ⟨ws0, hw0, hini⟩ := hst.ini
      have hwp : ∀ (i : Nat) (o : Oper) (a' : Act) (wd : World) (Kc : Act → World → Prop), ops.toList[i]? = some o → (if Region.wanted o (yielded ops a'.tmps) then o.wp P a' wd Kc Q else Kc (a'.put o.dst undef) wd) → wpOp P ops Q i Kc a' wd := fun i o a' wd Kc ho hh => by
        unfold wpOp
        rw [← Array.getElem?_toList, ho]
        simp only
        split at hh
        · rename_i hw2; rw [if_pos hw2]; exact .inl hh
        · rename_i hw2; rw [if_neg hw2]; exact hh
      refine wp_region_any hfol ?_
      refine any_order (R := Rep X D) (s0 := view σ) (pi := pi) (WS := WS) (rel := openAt ops.toList (openOp anns.rels) pi) hpl (onceN_ok hpn) (fun x hx => ?_) (fun p x hp => ?_) hearl (fun ws hw => ?_) hord (laterOk_ok hlater) (fun ws hw p i wr hrp hp hwr s hag a' wd hR' => ?_) (fun ws hw i hi => ?_) (fun ws hw hl a' wd hR' => ?_)
        ops.size (Array.replicate ops.size false) (view σ) ws0 a _ hw0 (by simp) ?_ ?_ ?_ ?_ ?_ ?_ hR.drew
      · have := List.all_eq_true.1 hps x (by simpa using hx)
        obtain ⟨y, hy, he⟩ := List.any_eq_true.1 this
        obtain ⟨p, hp⟩ := List.getElem?_of_mem hy
        exact ⟨p, by rw [hp, Nat.eq_of_beq_eq_true he]⟩
      · have := List.all_eq_true.1 hpb x (List.mem_of_getElem? hp)
        simpa using this
      · obtain ⟨k1, k2⟩ := hst.len ws hw
        refine ⟨by omega, fun hl => ?_⟩
        obtain ⟨⟨i, o, q1, q2, q3⟩, _⟩ := k2 (by omega)
        rw [hopenE _ i o q1 q2]; exact q3
      · obtain ⟨i', o, q1, q2, q3⟩ := hst.det ws hw p wr hwr
        rw [hp] at q1; cases q1
        rw [hopenE p i o hp q2] at hrp
        exact hwp i o a' wd _ q2 (q3 hrp D s hag a' wd hR' _ Q (fun a'' w'' h => h))
      · obtain ⟨o, ids, q1, q2, q3⟩ := hst.opn ws hw i hi
        refine ⟨wr0 ops o ids, chkOpen_ok (by simpa using q2), fun s hag a' wd hR' => ?_⟩
        refine hwp i o a' wd _ q1 (q3 D s hag a' wd hR' _ Q (fun ws' v k1 k2 k3 k4 a'' w'' h => ⟨ws', v, k1, k2, k3, fun q hq hq2 => ?_, h⟩))
        have hq3 : q < pi.length := by have := (hst.len ws' k1).1; omega
        have e1 := List.getElem?_eq_getElem hq3
        have hlq : pi[q] < ops.toList.length := by
          have := List.all_eq_true.1 hpb pi[q] (List.getElem_mem hq3)
          simpa using this
        have e2 : ops.toList[pi[q]]? = some ops.toList[pi[q]] := List.getElem?_eq_getElem hlq
        rw [hopenE q _ _ e1 e2]
        exact k4 q hq hq2 _ _ e1 e2
      · obtain ⟨_, ts', ms', k1, k2, k3⟩ := hfinK ws hw (by omega)
        rw [hpl] at k3
        rw [k3] at hR'
        exact hQ ⟨ts', ms'⟩ a' wd k1 k2 hR'
      · refine Nat.le_trans List.countP_le_length (by simp)
      · intro i hi
        have := hi.2
        simp [hi.1] at this
      · intro p i hp hl
        have hi : i < ops.size := by
          have := List.all_eq_true.1 hpb i (List.mem_of_getElem? hp)
          simpa using this
        simp [hi] at hl
      · intro p i hp hlt hrel
        have hli : i < ops.toList.length := by
          have := List.all_eq_true.1 hpb i (List.mem_of_getElem? hp)
          simpa using this
        have e2 : ops.toList[i]? = some ops.toList[i] := List.getElem?_eq_getElem hli
        rw [hopenE p i _ hp e2, hini p hlt i _ hp e2] at hrel
        cases hrel
      · exact (Inv.start _ _).congr (fun p => ⟨fun h => h.elim, fun ⟨i, hp, hl⟩ => by
          have hi : i < ops.size := by
            have := List.all_eq_true.1 hpb i (List.mem_of_getElem? hp)
            simpa using this
          simp [hi] at hl⟩)
      · exact (Inv.start _ _).congr (fun p => ⟨fun h => h.elim, fun ⟨i, hp, hl⟩ => by
          have hi : i < ops.size := by
            have := List.all_eq_true.1 hpb i (List.mem_of_getElem? hp)
            simpa using this
          simp [hi] at hl⟩)
    · exact h.elim
  | false =>
    intro id Q D hD a w hR hQ
    exact wp_region_list (runSeq_ok hcall hG hD (fun ts ms a w hK hl hR' => hQ ⟨ts, ms⟩ a w hK hl hR') ops.toList [] σ.tmps σ.mem h (fun p hp => by cases hp) hn a w hR)
theorem gen_ok {call : CallH} (hcall : CallHOk P X call) {E : Nat} (hG : X.G.length ≤ E) {anns : Anns} : ∀ (c : Code) (k : Nat) (σ : St) (K : Out → St → Prop), gen P X.G call X.n E anns c k σ K → σ.tmps.length = X.n →
    ∀ D, (∀ i p, D.b0 i = some p → i < E) → ∀ a w, Rep X D (view σ) a w → c.wp P (fun e a' w' => ∃ o σ', e = o.to ∧ K o σ' ∧ σ'.tmps.length = X.n ∧ Rep X D (view σ') a' w') a w := by
  intro c
  induction c with
  | skip => intro k σ K h hn D hD a w hR; exact wp_skip ⟨.normal, σ, rfl, h, hn, hR⟩
  | label l => intro k σ K h hn D hD a w hR; exact wp_label ⟨.normal, σ, rfl, h, hn, hR⟩
  | ret => intro k σ K h hn D hD a w hR; exact wp_ret ⟨.ret, σ, rfl, h, hn, hR⟩
  | exit id => intro k σ K h hn D hD a w hR; exact wp_exit ⟨.exit id, σ, rfl, h, hn, hR⟩
  | region id ops d =>
    intro k σ K h hn D hD a w hR
    exact genRegion_ok hcall hG h hn id _ D hD a w hR (fun σ' a' w' h1 h2 hR' => ⟨.normal, σ', rfl, h1, h2, hR'⟩)
  | seq x y ihx ihy =>
    intro k σ K h hn D hD a w hR
    simp only [gen] at h
    split at h
    · refine wp_seq (wp_mono (ihx k σ _ h hn D hD a w hR) ?_)
      rintro e a' w' ⟨o, σ', rfl, h1, h2, h3⟩
      cases o with
      | normal => exact ihy _ σ' K h1 h2 D hD a' w' h3
      | ret => exact ⟨.ret, σ', rfl, h1, h2, h3⟩
      | exit id => exact ⟨.exit id, σ', rfl, h1, h2, h3⟩
    · rename_i A _
      refine wp_seq (wp_mono (ihx k σ _ h.1 hn D hD a w hR) ?_)
      rintro e a' w' ⟨o, σ', rfl, h1, h2, h3⟩
      cases o with
      | normal =>
        obtain ⟨z, hI, hs⟩ := h1
        obtain ⟨r1, r2⟩ := sub_rep hs hD hG h2 h3
        exact ihy _ _ K (h.2 z hI) r2 D hD a' w' r1
      | ret => exact ⟨.ret, σ', rfl, h1, h2, h3⟩
      | exit id => exact ⟨.exit id, σ', rfl, h1, h2, h3⟩
  | cond c x y ihx ihy =>
    intro k σ K h hn D hD a w hR
    have hR' := hR
    obtain ⟨_, β, _, hB⟩ := hR'
    simp only [gen] at h
    split at h
    · rename_i hc
      have : a.eval c = .bool true := opnd_ok hB hc
      exact wp_cond this (by rw [if_pos rfl]; exact ihx k σ K h hn D hD a w hR)
    · rename_i hc
      have : a.eval c = .bool false := opnd_ok hB hc
      exact wp_cond this (by simp only [Bool.false_eq_true, if_false]; exact ihy _ σ K h hn D hD a w hR)
    · rename_i b hc
      have : a.eval c = .bool b := opnd_ok hB hc
      refine wp_cond this ?_
      split at h
      · cases hb : b with
        | true => rw [if_pos rfl]; exact ihx k σ K (h.1 hb) hn D hD a w hR
        | false => simp only [Bool.false_eq_true, if_false]; exact ihy _ σ K (h.2 hb) hn D hD a w hR
      · rw [h.1]; simp only [Bool.false_eq_true, if_false]; exact ihy _ σ K h.2 hn D hD a w hR
      · rw [h.1, if_pos rfl]; exact ihx k σ K h.2 hn D hD a w hR
    · exact h.elim
  | block id c ih =>
    intro k σ K h hn D hD a w hR
    refine wp_block (wp_mono (ih k σ _ h hn D hD a w hR) ?_)
    rintro e a' w' ⟨o, σ', rfl, h1, h2, h3⟩
    cases o with
    | normal => exact ⟨.normal, σ', rfl, h1, h2, h3⟩
    | ret => exact ⟨.ret, σ', rfl, h1, h2, h3⟩
    | exit j =>
      by_cases hj : j = id
      · subst hj
        simp only [inBlk, Nat.beq_refl, if_true] at h1
        simp only [Out.to, Exit.inBlock, if_true]
        exact ⟨.normal, σ', rfl, h1, h2, h3⟩
      · have hb : Nat.beq j id = false := by
          cases hb : Nat.beq j id
          · rfl
          · exact absurd (Nat.eq_of_beq_eq_true hb) hj
        simp only [inBlk, hb, Bool.false_eq_true, if_false] at h1
        simp only [Out.to, Exit.inBlock, if_neg hj]
        exact ⟨.exit j, σ', rfl, h1, h2, h3⟩
  | loop c ih =>
    intro k σ K h hn D hD a w hR
    simp only [gen] at h
    split at h
    · rename_i m0 _
      classical
      let It : Nat → St → Prop := iterG (fun σ K => gen P X.G call X.n E anns c (k + 1) σ K) K
      let Good : Act → World → Nat → Prop := fun a w m => ∃ σ', It m σ' ∧ Rep X D (view σ') a w ∧ σ'.tmps.length = X.n
      let μ : Act → World → Nat := fun a w => if h : ∃ m, Good a w m then Classical.choose (least_of h) else 0
      have hμ : ∀ a w m, Good a w m → μ a w ≤ m ∧ Good a w (μ a w) := fun a w m hg => by
        have hex : ∃ m, Good a w m := ⟨m, hg⟩
        simp only [μ, dif_pos hex]
        exact ⟨(Classical.choose_spec (least_of hex)).2 m hg, (Classical.choose_spec (least_of hex)).1⟩
      refine wp_loop (fun a w => ∃ m, Good a w m) μ ⟨m0, σ, h, hR, hn⟩ (fun a1 w1 hg => ?_)
      obtain ⟨m, hg⟩ := hg
      obtain ⟨_, σ1, hI, hRx, hlx⟩ := hμ a1 w1 m hg
      cases hm : μ a1 w1 with
      | zero => rw [hm] at hI; exact hI.elim
      | succ m1 =>
        rw [hm] at hI
        refine wp_mono (ih _ _ _ hI hlx D hD a1 w1 hRx) ?_
        rintro e a' w' ⟨o, σ', rfl, h1, h2, h3⟩
        cases o with
        | normal =>
          have hg' : Good a' w' m1 := ⟨σ', h1, h3, h2⟩
          exact ⟨⟨_, hg'⟩, by have := (hμ a' w' _ hg').1; omega⟩
        | ret => exact ⟨.ret, σ', rfl, h1, h2, h3⟩
        | exit id => exact ⟨.exit id, σ', rfl, h1, h2, h3⟩
    split at h
    · rename_i A hA
      split at h
      · rename_i B Bs hB
        generalize hAs : (A :: B :: Bs) = As at h
        generalize hσ0 : junkAt (assigned c) σ = σ0 at h
        obtain ⟨h0, hround⟩ := h
        obtain ⟨A0, hA0, x0, hI0, _, hs0⟩ := headIn_ok h0
        have hround := roundA_ok hround
        classical
        let Good : Act → World → Nat → Prop := fun a w m => ∃ A ∈ As, ∃ x, A.I σ0 x ∧ A.μ x = m ∧ Rep X D (view (A.st σ0 x)) a w ∧ (A.st σ0 x).tmps.length = X.n
        let μ : Act → World → Nat := fun a w => if h : ∃ m, Good a w m then Classical.choose (least_of h) else 0
        have hμ : ∀ a w m, Good a w m → μ a w ≤ m ∧ Good a w (μ a w) := fun a w m hg => by
          have hex : ∃ m, Good a w m := ⟨m, hg⟩
          simp only [μ, dif_pos hex]
          exact ⟨(Classical.choose_spec (least_of hex)).2 m hg, (Classical.choose_spec (least_of hex)).1⟩
        obtain ⟨r1, r2⟩ := sub_rep hs0 hD hG hn hR
        refine wp_loop (fun a w => ∃ m, Good a w m) μ ⟨_, A0, hA0, x0, hI0, rfl, r1, r2⟩ (fun a1 w1 hg => ?_)
        obtain ⟨m, hg⟩ := hg
        obtain ⟨_, A1, hA1, x, hI, hx, hRx, hlx⟩ := hμ a1 w1 m hg
        refine wp_mono (ih _ _ _ (hround A1 hA1 x hI) hlx D hD a1 w1 hRx) ?_
        rintro e a' w' ⟨o, σ', rfl, h1, h2, h3⟩
        cases o with
        | normal =>
          obtain ⟨A2, hA2, y, hy1, hy2, hy3⟩ := headIn_ok h1
          obtain ⟨s1, s2⟩ := sub_rep hy3 hD hG h2 h3
          have hg' : Good a' w' (A2.μ y) := ⟨A2, hA2, y, hy1, rfl, s1, s2⟩
          have hy2 := hy2 _ rfl
          exact ⟨⟨_, hg'⟩, by have := (hμ a' w' _ hg').1; omega⟩
        | ret => exact ⟨.ret, σ', rfl, h1, h2, h3⟩
        | exit id => exact ⟨.exit id, σ', rfl, h1, h2, h3⟩
      obtain ⟨⟨x0, hI0, hs0⟩, hround⟩ := h
      classical
      let Good : Act → World → Nat → Prop := fun a w m => ∃ x, A.I (junkAt (assigned c) σ) x ∧ A.μ x = m ∧ Rep X D (view (A.st (junkAt (assigned c) σ) x)) a w ∧ (A.st (junkAt (assigned c) σ) x).tmps.length = X.n
      let μ : Act → World → Nat := fun a w => if h : ∃ m, Good a w m then Classical.choose (least_of h) else 0
      have hμ : ∀ a w m, Good a w m → μ a w ≤ m ∧ Good a w (μ a w) := fun a w m hg => by
        have hex : ∃ m, Good a w m := ⟨m, hg⟩
        simp only [μ, dif_pos hex]
        exact ⟨(Classical.choose_spec (least_of hex)).2 m hg, (Classical.choose_spec (least_of hex)).1⟩
      obtain ⟨r1, r2⟩ := sub_rep hs0 hD hG hn hR
      refine wp_loop (fun a w => ∃ m, Good a w m) μ ⟨_, x0, hI0, rfl, r1, r2⟩ (fun a1 w1 hg => ?_)
      obtain ⟨m, hg⟩ := hg
      obtain ⟨_, x, hI, hx, hRx, hlx⟩ := hμ a1 w1 m hg
      refine wp_mono (ih _ _ _ (hround x hI) hlx D hD a1 w1 hRx) ?_
      rintro e a' w' ⟨o, σ', rfl, h1, h2, h3⟩
      cases o with
      | normal =>
        obtain ⟨y, hy1, hy2, hy3⟩ := h1
        obtain ⟨s1, s2⟩ := sub_rep hy3 hD hG h2 h3
        have hg' : Good a' w' (A.μ y) := ⟨y, hy1, rfl, s1, s2⟩
        exact ⟨⟨_, hg'⟩, by have := (hμ a' w' _ hg').1; omega⟩
      | ret => exact ⟨.ret, σ', rfl, h1, h2, h3⟩
      | exit id => exact ⟨.exit id, σ', rfl, h1, h2, h3⟩
    · exact h.elim
  | _ => intro k σ K h hn D hD a w hR; exact h.elim
end
end Go.Proofs.YtpdijogpbnaplaaDoorHz
namespace Go.Proofs.YtpdijogpbnaplaaDoorHz
open Go Go.RowKit

section
variable {P : Program} {X : Cx}
noncomputable def resW (P : Program) (σ : St) : ResultVar → Option V
  | .tmp t => some ((view σ).tmp t)
  | .cell a ty => match (view σ).tmp a, tyAgg P ty, tySize P ty with
    | .val (.one (.ptr id off)), some true, some n => (match (view σ).blk id with
      | some (.mem _ segs) => (match loadN segs off n with | some ls => some (.val (.agg ls)) | none => none)
      | _ => none)
    | .val (.one (.ptr id off)), some false, some _ => (match (view σ).blk id with
      | some (.mem _ segs) => (match loadCell segs off with | some l => some (.val (.one l)) | none => none)
      | _ => none)
    | .val (.one (.fptr id b off)), some true, some n => (match (view σ).blk id, Nat.beq off 0 with
      | some (.fam _ _ k _ _ g), true => some (.val (.arr k n (g b)))
      | _, _ => none)
    | _, _, _ => none
noncomputable def resN1 (P : Program) (σ : St) : ResultVar → Option Prop
  | .cell a ty => (match (view σ).tmp a, tySize P ty with
    | .val (.one (.fptr id b _)), some n => (match (view σ).blk id with
      | some (.fam _ _ _ len dom _) => some (dom b = true ∧ len b = n)
      | _ => none)
    | _, _ => none)
  | _ => none
noncomputable def resN (P : Program) (σ : St) : List ResultVar → Option Prop
  | [] => none
  | r :: rs => andO (resN1 P σ r) (resN P σ rs)
noncomputable def resWs (P : Program) (σ : St) : List ResultVar → Option (List V)
  | [] => some []
  | r :: rs => match resW P σ r, resWs P σ rs with
    | some v, some vs => some (v :: vs)
    | _, _ => none
noncomputable def resV (P : Program) (fn : Func) (σ : St) : Option V :=
  match resWs P σ fn.results.toList with
  | some [v] => some v
  | some vs => (match allW vs with | some ws => some (.tup ws) | none => none)
  | none => none
def readRes (ts : Array Value) : ResultVar → Sem Value
  | .tmp t => pure (ts.getD t undef)
  | .cell p ty => do loadVar ty (← asAddr (ts.getD p undef))
theorem resW_ok {D : Dx} {σ : St} {β : Bm} {a : Act} {w : World} (h : RepB X D β (view σ) a w) {r : ResultVar} {v : V} (hv : resW P σ r = some v) (hN : holdsP (resN1 P σ r)) :
    ∃ x, v.rel β x ∧ (readRes a.tmps r).run P w = .ok x w := by
  cases r with
  | tmp t => simp only [resW, Option.some.injEq] at hv; subst hv; exact ⟨_, h.tmps t, rfl⟩
  | cell p ty =>
    simp only [resW] at hv
    split at hv
    · rename_i id off n h1 h2 h3
      split at hv
      · rename_i own segs hblk
        split at hv
        · rename_i ls hl
          cases hv
          have ht := h.tmps p
          rw [h1] at ht
          obtain ⟨b, hb, hx⟩ := ht
          obtain ⟨p', k1, k2, _⟩ := h.mem _ _ hblk
          rw [hb] at k1; cases k1
          obtain ⟨q1, q2⟩ := loadN_get hl
          obtain ⟨vs, r1, r2⟩ := loadRun (P := P) (β := β) (w := w) (b := b) n off 0 ls #[] [] q1 (fun j l hj => by
            obtain ⟨y, h1, h2⟩ := loadCell_ok k2.2.1 (q2 j l hj)
            exact ⟨y, by rw [Nat.zero_add] at h1; rw [Nat.add_zero]; exact h1, h2⟩) trivial
          refine ⟨.agg vs, ⟨vs, rfl, by simpa using r2⟩, ?_⟩
          simp only [readRes, hx, asAddr, loadVar, loadCells, Sem.run_bind, Sem.run_pure, tyAgg_ok h2, tySize_ok h3, Result.andThen_ok, if_true, r1]
        · cases hv
      · cases hv
    · rename_i id off n h1 h2 h3
      split at hv
      · rename_i own segs hblk
        split at hv
        · rename_i l hl
          cases hv
          have ht := h.tmps p
          rw [h1] at ht
          obtain ⟨b, hb, hx⟩ := ht
          obtain ⟨p', k1, k2, _⟩ := h.mem _ _ hblk
          rw [hb] at k1; cases k1
          obtain ⟨y, hy, hr⟩ := loadCell_ok k2.2.1 hl
          rw [Nat.zero_add] at hy
          refine ⟨y, hr, ?_⟩
          simp only [readRes, hx, asAddr, loadVar, Sem.run_bind, Sem.run_pure, tyAgg_ok h2, Result.andThen_ok, Bool.false_eq_true, if_false, run_load, hy]
        · cases hv
      · cases hv
    · rename_i id b off n h1 h2 h3
      split at hv
      · rename_i own e k len dom g hblk hoff
        cases hv
        have ho := Nat.eq_of_beq_eq_true hoff
        subst ho
        have ht := h.tmps p
        rw [h1] at ht
        have hx : a.tmps.getD p undef = .pointer (some ⟨b, 0, none⟩) := ht
        obtain ⟨p', k1, k2, _⟩ := h.mem _ _ hblk
        simp only [resN1, h1, h3, hblk, holdsP] at hN
        obtain ⟨vs, r1, r2⟩ := loadRun (P := P) (β := β) (w := w) (b := b) n 0 0 (rowLs k n (g b)) #[] [] (by simp [rowLs]) (fun j l hj => by
          obtain ⟨h1, rfl⟩ := rowLs_get hj
          exact ⟨.int k (g b j), by simpa using fam_cell k2 hN.1 (by omega : j < len b), rfl⟩) trivial
        obtain ⟨q1, q2⟩ := all2_rowLs (by simpa using r2)
        refine ⟨.agg vs, ⟨vs, rfl, by simpa using q1, fun j hj => by simpa using q2 j hj⟩, ?_⟩
        simp only [readRes, hx, asAddr, loadVar, loadCells, Sem.run_bind, Sem.run_pure, tyAgg_ok h2, tySize_ok h3, Result.andThen_ok, if_true, r1]
      · cases hv
    · cases hv
theorem resWs_ok {D : Dx} {σ : St} {β : Bm} {a : Act} {w : World} (h : RepB X D β (view σ) a w) : ∀ {rs : List ResultVar} {vs : List V}, resWs P σ rs = some vs → holdsP (resN P σ rs) →
    ∃ xs, All2 (V.rel β) vs xs ∧ (rs.mapM (readRes a.tmps)).run P w = .ok xs w
  | [], vs, hv, _ => by simp [resWs] at hv; subst hv; exact ⟨[], trivial, rfl⟩
  | r :: rs, vs, hv, hN => by
    unfold resWs at hv
    split at hv
    · rename_i v vs' h1 h2
      cases hv
      obtain ⟨x, hx, hrun⟩ := resW_ok h h1 (andO_ok hN).1
      obtain ⟨xs, hxs, hruns⟩ := resWs_ok h h2 (andO_ok hN).2
      refine ⟨x :: xs, ⟨hx, hxs⟩, ?_⟩
      simp only [List.mapM_cons, Sem.run_bind, hrun, Result.andThen_ok, hruns]
      rfl
    · cases hv
theorem resV_ok {D : Dx} {σ : St} {β : Bm} {a : Act} {w : World} (h : RepB X D β (view σ) a w) {fn : Func} {v : V} (hv : resV P fn σ = some v) (hN : holdsP (resN P σ fn.results.toList)) :
    ∃ x, v.rel β x ∧ (results fn a.tmps).run P w = .ok x w := by
  have e : ∀ xs, (fn.results.toList.mapM (readRes a.tmps)).run P w = .ok xs w →
      (results fn a.tmps).run P w = .ok (if h : xs.toArray.size = 1 then xs.toArray[0] else .tuple xs.toArray) w := by
    intro xs hxs
    have e1 : results fn a.tmps = (do let vs ← fn.results.mapM (readRes a.tmps); pure (if h : vs.size = 1 then vs[0] else .tuple vs)) := by
      unfold results
      congr 2
    rw [e1, Array.mapM_eq_mapM_toList]
    simp only [Sem.run_bind, Sem.run_map, hxs, Result.andThen_ok]
    rfl
  unfold resV at hv
  split at hv
  · rename_i v' h1
    cases hv
    obtain ⟨xs, hxs, hrun⟩ := resWs_ok h h1 hN
    cases xs with
    | nil => exact hxs.elim
    | cons x xs =>
      cases xs with
      | nil => exact ⟨x, hxs.1, by rw [e _ hrun]; rfl⟩
      | cons _ _ => exact hxs.2.elim
  · rename_i vs hne h1
    split at hv
    · rename_i ws hws
      cases hv
      obtain ⟨xs, hxs, hrun⟩ := resWs_ok h h1 hN
      refine ⟨.tuple xs.toArray, ⟨_, rfl, allW_ok hws hxs⟩, ?_⟩
      rw [e _ hrun]
      have hlen := hxs.length
      have : ¬ xs.toArray.size = 1 := by
        intro h2
        cases vs with
        | nil => simp at hlen h2; omega
        | cons v vs =>
          cases vs with
          | nil => exact hne v rfl
          | cons _ _ => simp at hlen h2; omega
      rw [dif_neg this]
    · cases hv
  · cases hv


inductive Rv where
  | det (v : V) (objs : List Ob)
  | rel (T : Type) (n : Nat) (post : T → Option Prop) (v : T → V) (objs : T → List Ob)
def Rv.has : Rv → V → List Ob → Prop
  | .det v objs, v', objs' => v' = v ∧ objs' = objs
  | .rel _ _ post v objs, v', objs' => ∃ x, holdsP (post x) ∧ v' = v x ∧ objs' = objs x
def okKind (o : Option Ob) (q : Ob) : Bool := match q with
  | .gone => true
  | q => q.own || (match o with | some o => !o.own | none => false)
def okKinds : List Ob → List Ob → Bool
  | _, [] => true
  | o :: os, q :: qs => okKind (some o) q && okKinds os qs
  | [], q :: qs => okKind none q && okKinds [] qs
def Rv.shaped (h : List Ob) : Rv → Prop
  | .det _ _ => True
  | .rel _ n post _ objs => ∀ x, holdsP (post x) → (Nat.beq (objs x).length n && okKinds h (objs x)) = true
structure Res where
  g : Option Prop
  need : Option Prop
  r : Rv
structure Con where
  f : FuncId
  paths : List V → List Ob → Option (List Res)
  ro : Bool
def gm (G : List (Nat × List L)) : List Ob := G.map fun g => .mem false [.cells g.2]
structure HeapOk (β : Bm) (M : List Ob) (w : World) : Prop where
  mem : ∀ id o, M[id]? = some o → ∃ p, β id = some p ∧ o.ok β w p
  dom : ∀ id p, β id = some p → ∃ o, M[id]? = some o
  inj : ∀ id id' o o' p p' b, M[id]? = some o → M[id']? = some o' → o.own = true → o' ≠ .gone → β id = some p → β id' = some p' → o.foot p b → o'.foot p' b → id = id'
def owned (β : Bm) (M : List Ob) (b : Nat) : Prop := ∃ i o p, M[i]? = some o ∧ o.own = true ∧ β i = some p ∧ o.foot p b
def dOf (β : Bm) (M : List Ob) (w : World) : Dx := ⟨w.heap.size, w, β, owned β M⟩
def GlobOk (G : List (Nat × List L)) (β : Bm) (w : World) : Prop := ∀ i g, G[i]? = some g → β i = some (.blk g.1) ∧ g.1 < w.heap.size ∧ segsOk (fun _ => none) w g.1 0 [.cells g.2]
def CallPost (G : List (Nat × List L)) (β : Bm) (M : List Ob) (w : World) (r : Res) (e : Ending) (w' : World) : Prop :=
  ∃ v objs x β', r.r.has v objs ∧ e = .returned x ∧ β.le β' ∧ HeapOk β' (gm G ++ objs) w' ∧ (∀ i o p, (gm G ++ objs)[i]? = some o → o.own = true → β' i = some p → (dOf β M w).may o p) ∧ v.rel β' x ∧ Chg (dOf β M w) w'
def Con.ok (P : Program) (G : List (Nat × List L)) (c : Con) : Prop :=
  ∀ args h l, c.paths args h = some l → ∃ r ∈ l, holdsP r.g ∧ (holdsP r.need → r.r.shaped h ∧ ∀ β xs w, HeapOk β (gm G ++ h) w → GlobOk G β w → All2 (V.rel β) args xs → Calls P c.f xs.toArray w (CallPost G β (gm G ++ h) w r))

def endVC (E : Nat) (G : List (Nat × List L)) (v : V) (mem : List Ob) : Rv → Prop
  | .det v0 objs => sub E ⟨[v], mem⟩ ⟨[v0], gm G ++ objs⟩
  | .rel _ _ post v0 objs => ∃ x, andP (post x) (sub E ⟨[v], mem⟩ ⟨[v0 x], gm G ++ objs x⟩)
theorem endVC_ok {E : Nat} {G : List (Nat × List L)} {v : V} {mem : List Ob} {r : Rv} (h : endVC E G v mem r) : ∃ v0 objs, r.has v0 objs ∧ sub E ⟨[v], mem⟩ ⟨[v0], gm G ++ objs⟩ := by
  cases r with
  | det v0 objs => exact ⟨v0, objs, ⟨rfl, rfl⟩, h⟩
  | rel T n post v0 objs =>
    obtain ⟨x, hx⟩ := h
    obtain ⟨h1, h2⟩ := andP_ok hx
    exact ⟨v0 x, objs x, ⟨x, h1, rfl, rfl⟩, h2⟩
noncomputable def fnVC (P : Program) (G : List (Nat × List L)) (call : CallH) (anns : Anns) (fn : Func) (body : Code) (args : List V) (h : List Ob) (r : Res) : Prop :=
  match Nat.ble args.length fn.ntmps with
  | true => gen P G call fn.ntmps (gm G ++ h).length anns body 0 ⟨args ++ List.replicate (fn.ntmps - args.length) (.val (.one .junk)), gm G ++ h⟩ (fun o σ => match o with
    | .exit _ => False
    | .normal | .ret => match resV P fn σ with
      | none => False
      | some v => match resN P σ fn.results.toList with
        | none => endVC (gm G ++ h).length G v σ.mem r.r
        | some p => p ∧ endVC (gm G ++ h).length G v σ.mem r.r)
  | false => False
theorem fnVC_ok {G : List (Nat × List L)} {call : CallH} {fn : Func} (hcall : CallHOk P ⟨G, fn.ntmps⟩ call) {anns : Anns} {f : FuncId} {body : Code} (hfn : P.funcs[f]? = some fn) (hb : fn.body = some body) {args : List V} {h : List Ob} {r : Res}
    (hv : fnVC P G call anns fn body args h r) {β : Bm} {xs : List Value} {w : World} (hH : HeapOk β (gm G ++ h) w) (hg : GlobOk G β w) (hx : All2 (V.rel β) args xs) : Calls P f xs.toArray w (CallPost G β (gm G ++ h) w r) := by
  unfold fnVC at hv
  split at hv
  · rename_i hc1
    have hc1 := Nat.le_of_ble_eq_true hc1
    have hlen := hx.length
    have hgl : (gm G).length = G.length := by simp [gm]
    refine calls_of_wp hfn hb ?_
    have hnog : ∀ (i : Nat) (g : Nat × List L), G[i]? = some g → ¬ owned β (gm G ++ h) g.1 := by
      rintro i g hgi ⟨j, o, p, h1, h2, h3, h4⟩
      have hi : (gm G ++ h)[i]? = some (.mem false [.cells g.2]) := by
        rw [List.getElem?_append_left (by rw [hgl]; exact (List.getElem?_eq_some_iff.1 hgi).1)]
        simp [gm, hgi]
      have := hH.inj j i o _ p (.blk g.1) g.1 h1 hi h2 (fun e => by cases e) h3 (hg i g hgi).1 h4 rfl
      subst this
      rw [h1] at hi
      cases hi; cases h2
    have hR : Rep ⟨G, fn.ntmps⟩ (dOf β (gm G ++ h) w) (view ⟨args ++ List.replicate (fn.ntmps - args.length) (.val (.one .junk)), gm G ++ h⟩)
        { tmps := xs.toArray ++ Array.replicate (fn.ntmps - xs.toArray.size) undef, defers := [] } w := by
      refine ⟨⟨rfl, rfl, rfl, Nat.le_refl _, Nat.le_refl _, fun _ _ _ => rfl⟩, β, Bm.le_refl β, ?_, fun t => ?_, rfl, fun id o ho => ?_, fun id p hp => ?_, fun i i' o o' p p' b ho ho' how hng hp hp' hf hf' => ?_, fun i g hgi => ?_⟩
      · show (xs.toArray ++ Array.replicate (fn.ntmps - xs.toArray.size) undef).size = fn.ntmps
        simp; omega
      · simp only [view, lget_eq, List.getD_eq_getElem?_getD, Array.getD_eq_getD_getElem?]
        by_cases ht : t < args.length
        · obtain ⟨y, hy, hr⟩ := hx.get t _ (List.getElem?_eq_getElem ht)
          rw [List.getElem?_append_left ht, List.getElem?_eq_getElem ht, Array.getElem?_append_left (by simp; omega)]
          have : xs.toArray[t]? = some y := by simpa using hy
          rw [this]
          exact hr
        · rw [List.getElem?_append_right (by omega)]
          have : (List.replicate (fn.ntmps - args.length) (V.val (.one .junk)))[t - args.length]?.getD (.val (.one .junk)) = .val (.one .junk) := by
            rw [List.getElem?_replicate]; split <;> rfl
          rw [this]; trivial
      · obtain ⟨p, k1, k2⟩ := hH.mem id o ho
        exact ⟨p, k1, k2, fun how b hb => .inr ⟨id, o, p, ho, how, k1, hb⟩⟩
      · exact hH.dom id p hp
      · exact hH.inj i i' o o' p p' b ho ho' how hng hp hp' hf hf'
      · obtain ⟨k1, k2, k3⟩ := hg i g hgi
        exact ⟨k1, k2, hnog i g hgi, k3⟩
    have hE : ∀ i p, (dOf β (gm G ++ h) w).b0 i = some p → i < (gm G ++ h).length := fun i p hp => by
      obtain ⟨o, ho⟩ := hH.dom i p hp
      exact (List.getElem?_eq_some_iff.1 ho).1
    refine wp_mono (gen_ok hcall (by simp [hgl]) body 0 _ _ hv (by simp; omega) _ hE _ w hR) ?_
    rintro e a' w' ⟨o, σ, rfl, hK, hn, hR'⟩
    have fin : ∀ v, resV P fn σ = some v → holdsP (resN P σ fn.results.toList) → endVC (gm G ++ h).length G v σ.mem r.r → a'.defers = [] ∧ ∃ x, (results fn a'.tmps).run P w' = .ok x w' ∧ CallPost G β (gm G ++ h) w r (.returned x) w' := by
      intro v h1 hN h2
      obtain ⟨v0, objs, hhas, h2⟩ := endVC_ok h2
      obtain ⟨hchg, β1, hb1, hB⟩ := hR'
      obtain ⟨x, hxr, hrun⟩ := resV_ok hB h1 hN
      have hR2 : Rep ⟨G, 1⟩ (dOf β (gm G ++ h) w) (view ⟨[v], σ.mem⟩) { tmps := #[x], defers := [] } w' := by
        refine ⟨hchg, β1, hb1, ⟨rfl, fun t => ?_, rfl, hB.mem, hB.dom, hB.inj, hB.glob⟩⟩
        simp only [view, lget_eq, List.getD_eq_getElem?_getD, Array.getD_eq_getD_getElem?]
        cases t with
        | zero => exact hxr
        | succ t => trivial
      obtain ⟨⟨_, β2, hb2, hB2⟩, _⟩ := sub_rep h2 hE (by simp [hgl]) (X := ⟨G, 1⟩) rfl hR2
      refine ⟨hB.defers, x, hrun, v0, objs, x, β2, hhas, rfl, hb2, ⟨fun id o ho => ?_, hB2.dom, hB2.inj⟩, fun i o p ho how hp => ?_, ?_, hchg⟩
      · obtain ⟨p, k1, k2, _⟩ := hB2.mem id o ho; exact ⟨p, k1, k2⟩
      · obtain ⟨p', k1, _, k3⟩ := hB2.mem i o ho
        rw [hp] at k1; cases k1
        exact k3 how
      · exact hB2.tmps 0
    cases o with
    | exit id => exact hK.elim
    | normal =>
      simp only at hK
      split at hK
      · exact hK.elim
      · rename_i v hv'
        split at hK
        · rename_i hr; exact fin v hv' (by rw [hr]; trivial) hK
        · rename_i q hr; exact fin v hv' (by rw [hr]; exact hK.1) hK.2
    | ret =>
      simp only at hK
      split at hK
      · exact hK.elim
      · rename_i v hv'
        split at hK
        · rename_i hr; exact fin v hv' (by rw [hr]; trivial) hK
        · rename_i q hr; exact fin v hv' (by rw [hr]; exact hK.1) hK.2
  · exact hv.elim
end
end Go.Proofs.YtpdijogpbnaplaaDoorHz
namespace Go.Proofs.YtpdijogpbnaplaaDoorHz
open Go Go.RowKit

def L.blur : L → L
  | .bool e => .bool (.tm e.v)
  | .int k e => .int k (.tm e.v)
  | l => l
def W.blur : W → W
  | .one l => .one l.blur
  | .agg ls => .agg (ls.map L.blur)
  | .arr k n g => .arr k n g
def V.blur : V → V
  | .val w => .val w.blur
  | .tup ws => .tup (ws.map W.blur)
  | .opt c v => .opt c v
def Seg.blur : Seg → Seg
  | .cells ls => .cells (ls.map L.blur)
  | .arr n cols => .arr n cols
def Ob.blur : Ob → Ob
  | .mem own segs => .mem own (segs.map Seg.blur)
  | o => o
theorem L.blur_rel {β : Bm} {l : L} {x : Value} (h : l.rel β x) : l.blur.rel β x := by cases l <;> exact h
theorem W.blur_rel {β : Bm} {w : W} {x : Value} (h : w.rel β x) : w.blur.rel β x := by
  cases w with
  | one l => exact L.blur_rel h
  | agg ls => obtain ⟨cs, h1, h2⟩ := h; exact ⟨cs, h1, all2_map (fun _ _ h => L.blur_rel h) h2⟩
  | arr k n g => exact h
theorem V.blur_rel {β : Bm} {v : V} {x : Value} (h : v.rel β x) : v.blur.rel β x := by
  cases v with
  | val w => exact W.blur_rel h
  | tup ws => obtain ⟨cs, h1, h2⟩ := h; exact ⟨cs, h1, all2_map (fun _ _ h => W.blur_rel h) h2⟩
  | opt c v => exact h
theorem segsOk_blur {β : Bm} {w : World} {b : Nat} : ∀ {segs : List Seg} {off : Nat}, segsOk β w b off segs → segsOk β w b off (segs.map Seg.blur)
  | [], _, _ => trivial
  | .cells ls :: r, off, ⟨h1, h2⟩ => by
    refine ⟨fun j l hl => ?_, by rw [List.length_map]; exact segsOk_blur h2⟩
    simp only [List.getElem?_map] at hl
    cases hl0 : ls[j]? with
    | none => rw [hl0] at hl; cases hl
    | some l0 =>
      rw [hl0] at hl; cases hl
      obtain ⟨x, k1, k2⟩ := h1 j l0 hl0
      exact ⟨x, k1, L.blur_rel k2⟩
  | .arr n cols :: r, off, ⟨h1, h2⟩ => ⟨h1, segsOk_blur h2⟩
theorem Ob.ok_blur {β : Bm} {w : World} : ∀ {o : Ob} {p : Pl}, o.ok β w p → o.blur.ok β w p
  | .mem _own _segs, .blk _b, ⟨h1, h2, h3⟩ => ⟨h1, segsOk_blur h2, h3⟩
  | .mp _ _key _agg _has _cols, .blk _b, hk => hk
  | .mpl _ _key _agg _has _cols _, .blk _b, hk => hk
  | .itr _ _ _ _ _, .blk _b, hk => hk
  | .rof _ _ _ _, _, hk => hk
  | .fam _ _ _ _ _ _, _, hk => hk
  | .mpl _ _ _ _ _ _, .val _, h => h.elim
  | .itr _ _ _ _ _, .val _, h => h.elim
  | .vec _own _e _n _cols, .val _x, hk => hk
  | .gone, _, _ => trivial
  | .mem _ _, .val _, h => h.elim
  | .mp _ _ _ _ _, .val _, h => h.elim
  | .vec _ _ _ _, .blk _, h => h.elim
theorem Ob.blur_foot {o : Ob} {p : Pl} {b : Nat} : o.blur.foot p b ↔ o.foot p b := by cases o <;> exact Iff.rfl
theorem Ob.blur_own (o : Ob) : o.blur.own = o.own := by cases o <;> rfl
theorem Ob.gone_blur {o : Ob} (h : o.blur ≠ .gone) : o ≠ .gone := fun e => h (by rw [e]; rfl)

def Ob.disown : Ob → Ob
  | .mem _ segs => .mem false segs
  | .mp _ k a has cols => .mp false k a has cols
  | .vec _ e n cols => .vec false e n cols
  | .mpl _ k a has cols g => .mpl false k a has cols g
  | .itr _ m g seen cur => .itr false m g seen cur
  | .rof k dom vis g => .rof k dom vis g
  | .fam _ e k len dom g => .fam false e k len dom g
  | .gone => .gone
def lend (ro : Bool) (o : Ob) : Ob := match ro with
  | true => o.disown
  | false => o
theorem lend_ok {ro : Bool} {β : Bm} {w : World} {o : Ob} {p : Pl} (h : o.ok β w p) : (lend ro o).ok β w p := by
  cases ro with
  | false => exact h
  | true =>
    cases o with
    | mem own segs => cases p with
      | val _ => exact h.elim
      | blk b => exact ⟨h.1, h.2.1, fun e => by cases e⟩
    | mp own k a has cols => cases p with
      | val _ => exact h.elim
      | blk b => exact h
    | vec own e n cols => cases p with
      | blk _ => exact h.elim
      | val x =>
        obtain ⟨h0, h1⟩ := h
        refine ⟨h0, ?_⟩
        rcases h1 with ⟨c, a1, a2, _⟩ | ⟨b, off, cap, a1, a2, a3, a4, _⟩
        · exact .inl ⟨c, a1, a2, fun e => by cases e⟩
        · exact .inr ⟨b, off, cap, a1, a2, a3, a4, fun e => by cases e⟩
    | mpl own k a has cols g => cases p with
      | val _ => exact h.elim
      | blk b => exact h
    | itr own m g seen cur => cases p with
      | val _ => exact h.elim
      | blk b => exact h
    | rof k dom vis g => exact h
    | fam own e k len dom g => exact fun b hb => ⟨(h b hb).1, (h b hb).2.1, fun e => by cases e⟩
    | gone => trivial
theorem lend_foot {ro : Bool} {o : Ob} {p : Pl} {b : Nat} : (lend ro o).foot p b ↔ o.foot p b := by cases ro <;> cases o <;> exact Iff.rfl
theorem lend_own {ro : Bool} {o : Ob} (h : (lend ro o).own = true) : lend ro o = o := by
  cases ro with
  | false => rfl
  | true => cases o <;> cases h
theorem lend_gone {ro : Bool} {o : Ob} (h : lend ro o ≠ .gone) : o ≠ .gone := fun e => h (by rw [e]; cases ro <;> rfl)
def reach (mem : Nat → Option Ob) : Nat → List Nat → List Nat → List Nat
  | 0, _, acc => acc
  | _ + 1, [], acc => acc
  | n + 1, i :: r, acc => if acc.any (Nat.beq i) then reach mem n r acc else (match mem i with
    | some o => reach mem n (o.hs ++ r) (acc ++ [i])
    | none => reach mem n r acc)
def posOf (l : List Nat) (x : Nat) : Nat := match l with
  | [] => 0
  | y :: r => if Nat.beq y x then 0 else posOf r x + 1
theorem posOf_ok : ∀ {l : List Nat} {x : Nat}, x ∈ l → l[posOf l x]? = some x ∧ posOf l x < l.length
  | y :: r, x, h => by
    unfold posOf
    by_cases e : Nat.beq y x = true
    · rw [if_pos e]; exact ⟨by rw [← Nat.eq_of_beq_eq_true e]; rfl, by simp⟩
    · rw [if_neg e]
      have hm : x ∈ r := by
        rcases List.mem_cons.1 h with h | h
        · rw [h, Nat.beq_refl] at e; exact absurd rfl e
        · exact h
      obtain ⟨h1, h2⟩ := posOf_ok hm
      exact ⟨by simpa using h1, by simpa using h2⟩
def nodupB : List Nat → Bool
  | [] => true
  | x :: r => !r.any (Nat.beq x) && nodupB r
theorem nodupB_ok : ∀ {l : List Nat}, nodupB l = true → ∀ (i j x : Nat), l[i]? = some x → l[j]? = some x → i = j
  | [], _, i, j, x, h, _ => by simp at h
  | y :: r, hn, i, j, x, hi, hj => by
    simp only [nodupB, Bool.and_eq_true, Bool.not_eq_true', List.any_eq_false] at hn
    have hno : ∀ k, r[k]? = some y → False := fun k hk => by
      have := hn.1 y (List.mem_of_getElem? hk)
      rw [Nat.beq_refl] at this; exact this rfl
    cases i with
    | zero =>
      cases j with
      | zero => rfl
      | succ j => simp at hi hj; subst hi; exact (hno j hj).elim
    | succ i =>
      cases j with
      | zero => simp at hi hj; subst hj; exact (hno i hi).elim
      | succ j => simp at hi hj; rw [nodupB_ok hn.2 i j x hi hj]
def objsOf (mem : Nat → Option Ob) : List Nat → Option (List Ob)
  | [] => some []
  | i :: r => match mem i, objsOf mem r with
    | some o, some os => some (o :: os)
    | _, _ => none
theorem objsOf_ok {mem : Nat → Option Ob} : ∀ {l : List Nat} {os : List Ob}, objsOf mem l = some os → os.length = l.length ∧ ∀ (k i : Nat), l[k]? = some i → ∃ o, os[k]? = some o ∧ mem i = some o
  | [], os, h => by cases h; exact ⟨rfl, (fun k i h => by simp at h)⟩
  | i :: r, os, h => by
    unfold objsOf at h
    split at h
    · rename_i o os' h1 h2
      cases h
      obtain ⟨k1, k2⟩ := objsOf_ok h2
      refine ⟨by simp [k1], fun k j hj => ?_⟩
      cases k with
      | zero => simp at hj; subst hj; exact ⟨o, rfl, h1⟩
      | succ k => simpa using k2 k j (by simpa using hj)
    · cases h
def wrOld (fb : Nat → Nat) : List Nat → List Ob → List Ob → Option (List (Nat × Option Ob))
  | [], _, _ => some []
  | i :: r, o :: os, q :: qs => match o.own with
    | true => (match q with
      | .gone => (match wrOld fb r os qs with | some ws => some ((i, some .gone) :: ws) | none => none)
      | q => if q.own then (match wrOld fb r os qs with | some ws => some ((i, some (q.ren fb)) :: ws) | none => none) else none)
    | false => wrOld fb r os qs
  | _, _, _ => none
def wrNew (fb : Nat → Nat) (fresh : Nat) : List Ob → Option (List (Nat × Option Ob))
  | [] => some []
  | q :: qs => match q with
    | .gone => (match wrNew fb (fresh + 1) qs with | some ws => some ((fresh, some .gone) :: ws) | none => none)
    | q => if q.own then (match wrNew fb (fresh + 1) qs with | some ws => some ((fresh, some (q.ren fb)) :: ws) | none => none) else none
def okObj (o q : Ob) : Prop := o.own = true ∧ (q = .gone ∨ q.own = true)
def WrOldP (fb : Nat → Nat) (I : List Nat) (os qs : List Ob) (ws : List (Nat × Option Ob)) : Prop :=
  (∀ (i : Nat) (v : Option Ob), look ws i = some v → ∃ (k : Nat) (o q : Ob), I[k]? = some i ∧ os[k]? = some o ∧ qs[k]? = some q ∧ v = some (q.ren fb) ∧ okObj o q) ∧
  (∀ (k i : Nat) (o : Ob), I[k]? = some i → os[k]? = some o → o.own = true → ∃ q : Ob, qs[k]? = some q ∧ look ws i = some (some (q.ren fb)))
theorem wrOld_ok {fb : Nat → Nat} : ∀ {I : List Nat} {os qs : List Ob} {ws : List (Nat × Option Ob)}, wrOld fb I os qs = some ws → I.length = os.length → nodupB I = true → WrOldP fb I os qs ws
  | [], os, qs, ws, h, _, _ => by cases h; exact ⟨(fun i v h => by cases h), (fun k i o h => by simp at h)⟩
  | i0 :: r, [], qs, ws, _, hl, _ => by simp at hl
  | i0 :: r, o0 :: os, [], ws, h, _, _ => by simp [wrOld] at h
  | i0 :: r, o0 :: os, q0 :: qs, ws, h, hl, hn => by
    have hn' : nodupB r = true := by simp only [nodupB, Bool.and_eq_true] at hn; exact hn.2
    have hno : ∀ k, r[k]? = some i0 → False := fun k hk => by
      have := nodupB_ok hn 0 (k + 1) i0 rfl (by simpa using hk); omega
    have hl' : r.length = os.length := by simpa using hl
    have skip : wrOld fb r os qs = some ws → o0.own = false → WrOldP fb (i0 :: r) (o0 :: os) (q0 :: qs) ws := fun h1 ho => by
      obtain ⟨k1, k2⟩ := wrOld_ok h1 hl' hn'
      refine ⟨fun i v hv => ?_, fun k i o hi ho' how => ?_⟩
      · obtain ⟨k, o, q, a1, a2, a3, a4, a5⟩ := k1 i v hv
        exact ⟨k + 1, o, q, by simpa using a1, by simpa using a2, by simpa using a3, a4, a5⟩
      · cases k with
        | zero => simp at ho'; subst ho'; rw [ho] at how; cases how
        | succ k => simpa using k2 k i o (by simpa using hi) (by simpa using ho') how
    have take : ∀ ws', wrOld fb r os qs = some ws' → okObj o0 q0 → WrOldP fb (i0 :: r) (o0 :: os) (q0 :: qs) ((i0, some (q0.ren fb)) :: ws') := fun ws' h1 hok => by
      obtain ⟨k1, k2⟩ := wrOld_ok h1 hl' hn'
      refine ⟨fun i v hv => ?_, fun k i o hi ho' how => ?_⟩
      · unfold look at hv
        split at hv
        · rename_i e; cases hv; exact ⟨0, o0, q0, by rw [← Nat.eq_of_beq_eq_true e]; rfl, rfl, rfl, rfl, hok⟩
        · obtain ⟨k, o, q, a1, a2, a3, a4, a5⟩ := k1 i v hv
          exact ⟨k + 1, o, q, by simpa using a1, by simpa using a2, by simpa using a3, a4, a5⟩
      · cases k with
        | zero => simp at hi; subst hi; exact ⟨q0, rfl, by unfold look; rw [Nat.beq_refl]; rfl⟩
        | succ k =>
          have hi' : r[k]? = some i := by simpa using hi
          obtain ⟨q, b1, b2⟩ := k2 k i o hi' (by simpa using ho') how
          refine ⟨q, by simpa using b1, ?_⟩
          unfold look
          have hb : Nat.beq i0 i = false := by
            cases hb : Nat.beq i0 i
            · rfl
            · rw [← Nat.eq_of_beq_eq_true hb] at hi'; exact (hno k hi').elim
          simp only [hb, Bool.false_eq_true, if_false]; exact b2
    unfold wrOld at h
    split at h
    · rename_i ho
      split at h
      · split at h
        · rename_i ws' h1; cases h; exact take ws' h1 ⟨ho, .inl rfl⟩
        · cases h
      · split at h
        · rename_i hq
          split at h
          · rename_i ws' h1; cases h; exact take ws' h1 ⟨ho, .inr hq⟩
          · cases h
        · cases h
    · rename_i ho; exact skip h ho
def WrNewP (fb : Nat → Nat) (fresh : Nat) (qs : List Ob) (ws : List (Nat × Option Ob)) : Prop :=
  (∀ (i : Nat), look ws i = if fresh ≤ i then (qs[i - fresh]?).map (fun q => some (q.ren fb)) else none) ∧ ∀ (k : Nat) (q : Ob), qs[k]? = some q → q = .gone ∨ q.own = true
theorem wrNew_ok {fb : Nat → Nat} : ∀ {qs : List Ob} {fresh : Nat} {ws : List (Nat × Option Ob)}, wrNew fb fresh qs = some ws → WrNewP fb fresh qs ws
  | [], fresh, ws, h => by cases h; exact ⟨(fun i => by simp [look]), (fun k q h => by simp at h)⟩
  | q0 :: qs, fresh, ws, h => by
    have fin : ∀ ws', wrNew fb (fresh + 1) qs = some ws' → (q0 = .gone ∨ q0.own = true) → WrNewP fb fresh (q0 :: qs) ((fresh, some (q0.ren fb)) :: ws') := fun ws' h1 hok => by
      obtain ⟨k1, k2⟩ := wrNew_ok h1
      refine ⟨fun i => ?_, fun k q hq => ?_⟩
      · unfold look
        by_cases e : fresh = i
        · subst e; rw [Nat.beq_refl]; simp
        · have hb : Nat.beq fresh i = false := by
            cases hb : Nat.beq fresh i
            · rfl
            · exact absurd (Nat.eq_of_beq_eq_true hb) e
          simp only [hb, Bool.false_eq_true, if_false]
          rw [k1]
          by_cases hl : fresh ≤ i
          · rw [if_pos hl, if_pos (by omega), show i - fresh = (i - (fresh + 1)) + 1 by omega]; simp
          · rw [if_neg hl, if_neg (by omega)]
      · cases k with
        | zero => simp at hq; subst hq; exact hok
        | succ k => exact k2 k q (by simpa using hq)
    unfold wrNew at h
    split at h
    · split at h
      · rename_i ws' h1; cases h; exact fin ws' h1 (.inl rfl)
      · cases h
    · split at h
      · rename_i hq
        split at h
        · rename_i ws' h1; cases h; exact fin ws' h1 (.inr hq)
        · cases h
      · cases h
end Go.Proofs.YtpdijogpbnaplaaDoorHz
namespace Go.Proofs.YtpdijogpbnaplaaDoorHz
open Go Go.RowKit

def renIn (g : Nat) (I : List Nat) (i : Nat) : Nat := if Nat.blt i g then i else g + posOf I i
def renOut (g : Nat) (I : List Nat) (fresh : Nat) (j : Nat) : Nat := if Nat.blt j g then j else match I[j - g]? with
  | some i => i
  | none => fresh + (j - g - I.length)
def pathsOf (g : Nat) (I : List Nat) (os : List Ob) (fresh : Nat) : List Res → Option (List Path)
  | [] => some []
  | r :: rs => match pathsOf g I os fresh rs with
    | none => none
    | some ps => match r.r with
      | .det v objs => if Nat.ble I.length objs.length then (match wrOld (renOut g I fresh) I os (objs.take I.length), wrNew (renOut g I fresh) fresh (objs.drop I.length) with
        | some a, some b => some (⟨r.g, r.need, .det ⟨v.ren (renOut g I fresh), I, a ++ b⟩⟩ :: ps)
        | _, _ => none) else none
      | .rel T n post v objs => if Nat.ble I.length n then some (⟨r.g, r.need, .rel T I (I ++ (List.range (n - I.length)).map fun j => fresh + j) post fun x => ((v x).ren (renOut g I fresh),
          (wrOld (renOut g I fresh) I os ((objs x).take I.length)).getD [] ++ (wrNew (renOut g I fresh) fresh ((objs x).drop I.length)).getD [])⟩ :: ps) else none
def PathOf (g : Nat) (I : List Nat) (os : List Ob) (fresh : Nat) : Rv → Ef → Prop
  | .det v objs, e => I.length ≤ objs.length ∧ ∃ a b, wrOld (renOut g I fresh) I os (objs.take I.length) = some a ∧ wrNew (renOut g I fresh) fresh (objs.drop I.length) = some b ∧ e = .det ⟨v.ren (renOut g I fresh), I, a ++ b⟩
  | .rel T n post v objs, e => I.length ≤ n ∧ e = .rel T I (I ++ (List.range (n - I.length)).map fun j => fresh + j) post fun x => ((v x).ren (renOut g I fresh),
          (wrOld (renOut g I fresh) I os ((objs x).take I.length)).getD [] ++ (wrNew (renOut g I fresh) fresh ((objs x).drop I.length)).getD [])
theorem pathsOf_ok {g : Nat} {I : List Nat} {os : List Ob} {fresh : Nat} : ∀ {rs : List Res} {ps : List Path}, pathsOf g I os fresh rs = some ps → ∀ r ∈ rs, ∃ e, (⟨r.g, r.need, e⟩ : Path) ∈ ps ∧ PathOf g I os fresh r.r e
  | [], _, _, r, hr => by cases hr
  | r0 :: rs, ps, h, r, hr => by
    unfold pathsOf at h
    split at h
    · cases h
    · rename_i ps' h3
      have tl : ∀ p, some (p :: ps') = some ps → r ∈ rs → ∃ e, (⟨r.g, r.need, e⟩ : Path) ∈ ps ∧ PathOf g I os fresh r.r e := fun p hp hr => by
        cases hp
        obtain ⟨e, k1, k2⟩ := pathsOf_ok h3 r hr
        exact ⟨e, List.mem_cons_of_mem _ k1, k2⟩
      obtain ⟨rg, rn, rr⟩ := r0
      simp only at h
      cases rr with
      | det v objs =>
        simp only at h
        split at h
        · rename_i hl
          split at h
          · rename_i a b h1 h2
            rcases List.mem_cons.1 hr with rfl | hr
            · cases h
              exact ⟨_, List.mem_cons_self, Nat.le_of_ble_eq_true hl, a, b, h1, h2, rfl⟩
            · exact tl _ h hr
          · cases h
        · cases h
      | rel T n post v objs =>
        simp only at h
        split at h
        · rename_i hl
          rcases List.mem_cons.1 hr with rfl | hr
          · cases h
            exact ⟨_, List.mem_cons_self, Nat.le_of_ble_eq_true hl, rfl⟩
          · exact tl _ h hr
        · cases h
theorem wrOld_some {fb : Nat → Nat} : ∀ {I : List Nat} {os qs hs : List Ob}, I.length = os.length → I.length ≤ qs.length → hs.map Ob.own = os.map Ob.own → okKinds hs qs = true → ∃ a, wrOld fb I os (qs.take I.length) = some a
  | [], _, _, _, _, _, _, _ => ⟨[], by simp [wrOld]⟩
  | i :: r, o :: os, q :: qs, h :: hs, h1, h2, h3, h4 => by
    simp only [okKinds, Bool.and_eq_true] at h4
    simp only [List.map_cons, List.cons.injEq] at h3
    obtain ⟨a, ha⟩ := wrOld_some (fb := fb) (I := r) (os := os) (qs := qs) (hs := hs) (by simpa using h1) (by simpa using h2) h3.2 h4.2
    simp only [List.length_cons, List.take_succ_cons, wrOld, ha]
    cases ho : o.own with
    | false => exact ⟨a, rfl⟩
    | true =>
      simp only
      have hk := h4.1
      unfold okKind at hk
      split at hk
      · exact ⟨_, rfl⟩
      · rename_i hng
        have hk : (q.own || !h.own) = true := hk
        rw [h3.1, ho] at hk
        simp only [Bool.not_true, Bool.or_false] at hk
        split
        · exact ⟨_, rfl⟩
        · first | (rw [if_pos hk]; exact ⟨_, rfl⟩) | exact ⟨_, rfl⟩
  | _ :: _, [], _, _, h, _, _, _ => by simp at h
  | _ :: _, _ :: _, [], _, _, h, _, _ => by simp at h
  | _ :: _, _ :: _, _ :: _, [], _, _, h, _ => by simp at h
theorem wrNew_some {fb : Nat → Nat} : ∀ {qs : List Ob} {fresh : Nat}, okKinds [] qs = true → ∃ b, wrNew fb fresh qs = some b
  | [], _, _ => ⟨[], rfl⟩
  | q :: qs, fresh, h => by
    simp only [okKinds, Bool.and_eq_true] at h
    obtain ⟨b, hb⟩ := wrNew_some (fb := fb) (qs := qs) (fresh := fresh + 1) h.2
    have hk := h.1
    unfold okKind at hk
    simp only [wrNew, hb]
    split at hk
    · exact ⟨_, rfl⟩
    · simp only [Bool.or_false] at hk
      split
      · exact ⟨_, rfl⟩
      · first | (rw [if_pos hk]; exact ⟨_, rfl⟩) | exact ⟨_, rfl⟩
theorem okKinds_drop : ∀ {hs qs : List Ob}, okKinds hs qs = true → okKinds [] (qs.drop hs.length) = true
  | [], qs, h => h
  | h :: hs, [], _ => rfl
  | h :: hs, q :: qs, hh => by
    simp only [okKinds, Bool.and_eq_true] at hh
    simpa using okKinds_drop hh.2
def callGo (_P : Program) (g : Nat) (c : Con) (args : List V) (s : S) (fresh : Nat) (I : List Nat) : Option (List Path) :=
  match objsOf s.blk I with
  | none => none
  | some os0 => match os0.map (lend c.ro) with
    | os => if nodupB I && I.all (fun i => Nat.ble g i) && Nat.ble g fresh && (args.flatMap V.ids ++ os.flatMap Ob.ids).all (fun i => Nat.blt i g || I.any (Nat.beq i)) then
      (match c.paths (args.map fun v => (v.ren (renIn g I)).blur) (os.map fun o => (o.ren (renIn g I)).blur) with
      | none => none
      | some rs => pathsOf g I os fresh rs) else none
def tryCons (P : Program) (g : Nat) (f : FuncId) (args : List V) (s : S) (fresh : Nat) (I : List Nat) : List Con → Option (List Path)
  | [] => none
  | c :: cs => match Nat.beq c.f f with
    | true => (match callGo P g c args s fresh I with
      | some l => some l
      | none => tryCons P g f args s fresh I cs)
    | false => tryCons P g f args s fresh I cs
def callAt (P : Program) (G : List (Nat × List L)) (cs : List Con) (f : FuncId) (args : List V) (s : S) (fresh : Nat) : Option (List Path) := match P.funcs[f]? with
  | some fn => if (fn.name == "runtime.NumGoroutine") || fn.body.isNone then none else
      tryCons P G.length f args s fresh (reach (fun i => if Nat.blt i G.length then none else s.blk i) 64 (args.flatMap V.hs) []) cs
  | none => none
def callOf (P : Program) (G : List (Nat × List L)) (cs : List Con) : CallH := ⟨callAt P G cs, fun t => cs.any fun c => Nat.beq c.f (famMark + t)⟩
def famCon (t : TypeId) : Con := ⟨famMark + t, fun _ _ => none, false⟩
theorem famCon_ok {P : Program} {G : List (Nat × List L)} (t : TypeId) : (famCon t).ok P G := fun _ _ _ h => by cases h

theorem look_append {α : Type} : ∀ (a b : List (Nat × α)) (i : Nat), look (a ++ b) i = (match look a i with
    | some v => some v
    | none => look b i)
  | [], b, i => rfl
  | p :: a, b, i => by
    simp only [List.cons_append, look]
    split
    · rfl
    · exact look_append a b i
section
variable {P : Program} {X : Cx}
theorem call_eff {c : Con} (hc : c.ok P X.G) {args : List V} {s : S} {fresh : Nat} (hfree : ∀ i, fresh ≤ i → s.blk i = none) {I : List Nat} {l : List Path} (h : callGo P X.G.length c args s fresh I = some l)
    {fn : Func} (hfn : P.funcs[c.f]? = some fn) (hname : (fn.name == "runtime.NumGoroutine") = false) (hbody : fn.body.isNone = false) (cl : Call) (vs : List V) (hent : Enters P cl vs c.f args) :
    PathsOk P X (.call cl) s vs l := by
  unfold callGo at h
  split at h
  · cases h
  · rename_i os0 hos
    simp only at h
    split at h
    · rename_i hchk
      simp only [Bool.and_eq_true, List.all_eq_true] at hchk
      obtain ⟨⟨⟨hnd, hge⟩, hgf⟩, hids⟩ := hchk
      have hgf := Nat.le_of_ble_eq_true hgf
      split at h
      · cases h
      · rename_i rs hrs
        obtain ⟨r, hr, hrg, hrok⟩ := hc _ _ _ hrs
        obtain ⟨ef, hmem, hef⟩ := pathsOf_ok h r hr
        obtain ⟨o1', o2'⟩ := objsOf_ok hos
        generalize hosd : os0.map (lend c.ro) = os at *
        have o1 : os.length = I.length := by rw [← hosd, List.length_map]; exact o1'
        have o2 : ∀ k i : Nat, I[k]? = some i → ∃ o, os[k]? = some (lend c.ro o) ∧ s.blk i = some o := fun k i hi => by
          obtain ⟨o, a1, a2⟩ := o2' k i hi
          exact ⟨o, by rw [← hosd, List.getElem?_map, a1]; rfl, a2⟩
        refine ⟨_, hmem, hrg, fun hneed => ?_⟩
        obtain ⟨hshape, hrok⟩ := hrok hneed
        let g := X.G.length
        -- names
        have hIg : ∀ k i : Nat, I[k]? = some i → g ≤ i ∧ i < fresh := fun k i hi => by
          refine ⟨Nat.le_of_ble_eq_true (hge i (List.mem_of_getElem? hi)), ?_⟩
          obtain ⟨o, _, ho⟩ := o2 k i hi
          rcases Nat.lt_or_ge i fresh with h' | h'
          · exact h'
          · rw [hfree i h'] at ho; cases ho
        have hin : ∀ i ∈ args.flatMap V.ids ++ os.flatMap Ob.ids, i < g ∨ ∃ k, I[k]? = some i ∧ renIn g I i = g + k := fun i hi => by
          have := hids i hi
          rw [Bool.or_eq_true] at this
          rcases this with h1 | h1
          · exact .inl (by simpa using h1)
          · obtain ⟨y, hy, he⟩ := List.any_eq_true.1 h1
            have := Nat.eq_of_beq_eq_true he
            subst this
            obtain ⟨k1, k2⟩ := posOf_ok hy
            refine .inr ⟨posOf I i, k1, ?_⟩
            unfold renIn
            have hb : Nat.blt i g = false := by
              cases hb : Nat.blt i g
              · rfl
              · have h3 : i < g := by simpa using hb
                have := (hIg _ _ k1).1; omega
            rw [hb]; rfl
        have core : ∀ m : Nat, (∀ v0 objs, r.r.has v0 objs → objs.length = I.length + m ∧ ∃ wa wb, wrOld (renOut g I fresh) I os (objs.take I.length) = some wa ∧ wrNew (renOut g I fresh) fresh (objs.drop I.length) = some wb) →
          ∀ (o : Oper), o.op = .call cl → (∀ t, o.dst = some t → t < X.n) → ∀ D s2 a w β, Chg D w → D.b0.le β → RepB X D β s2 a w → All2 (V.rel β) vs ((Op.call cl).operands.toList.map a.eval) →
          (∀ id ∈ I, s2.blk id = s.blk id) → (∀ j, fresh ≤ j → j < fresh + m → s2.blk j = none) → ∀ (K : Act → World → Prop) (Q : Exit → Act → World → Prop),
          (∀ v0 objs wa wb, r.r.has v0 objs → wrOld (renOut g I fresh) I os (objs.take I.length) = some wa → wrNew (renOut g I fresh) fresh (objs.drop I.length) = some wb → ∀ a' w', Rep X D ⟨upd s2.tmp (look (wrT o.dst (v0.ren (renOut g I fresh)))), upd s2.blk (look (wa ++ wb))⟩ a' w' → K a' w') → o.wp P a w K Q := by
         intro m hsh o ho hd D s2 a w β hC hb0 hB hargs hrd hnewfree K Q hK
         have hblkI : ∀ k i : Nat, I[k]? = some i → ∃ o, os[k]? = some (lend c.ro o) ∧ s2.blk i = some o := fun k i hi => by
           obtain ⟨o, a1, a2⟩ := o2 k i hi
           exact ⟨o, a1, by rw [hrd i (List.mem_of_getElem? hi)]; exact a2⟩
         -- the numbers of the one who is called
         let βc : Bm := fun j => if j < g then β j else (I[j - g]?).bind β
         have hβcI : ∀ k i : Nat, I[k]? = some i → βc (g + k) = β i := fun k i hi => by
           show (if g + k < g then _ else (I[g + k - g]?).bind β) = _
           rw [if_neg (by omega), Nat.add_sub_cancel_left, hi]; rfl
         have hβcg : ∀ j, j < g → βc j = β j := fun j hj => by show (if j < g then _ else _) = _; rw [if_pos hj]
         have hren : ∀ l : List Nat, (∀ i ∈ l, i ∈ args.flatMap V.ids ++ os.flatMap Ob.ids) → RenOn (renIn g I) l β βc := fun l hl i hi p hp => by
           rcases hin i (hl i hi) with h1 | ⟨k, h1, h2⟩
           · have e : renIn g I i = i := by unfold renIn; rw [show Nat.blt i g = true from by simpa using h1]; rfl
             rw [e, hβcg i h1]; exact hp
           · rw [h2, hβcI k i h1]; exact hp
         have hgl : (gm X.G).length = g := by simp [gm, g]
         have hM : ∀ j o, (gm X.G ++ os.map (fun o => (o.ren (renIn g I)).blur))[j]? = some o → (j < g ∧ ∃ gg, X.G[j]? = some gg ∧ o = .mem false [.cells gg.2]) ∨ ∃ (k i : Nat) (o0 : Ob), j = g + k ∧ I[k]? = some i ∧ os[k]? = some (lend c.ro o0) ∧ s2.blk i = some o0 ∧ o = ((lend c.ro o0).ren (renIn g I)).blur := fun j o hj => by
           rcases Nat.lt_or_ge j g with h1 | h1
           · rw [List.getElem?_append_left (by rw [hgl]; exact h1)] at hj
             simp only [gm, List.getElem?_map] at hj
             cases hgg : X.G[j]? with
             | none => rw [hgg] at hj; cases hj
             | some gg => rw [hgg] at hj; cases hj; exact .inl ⟨h1, gg, rfl, rfl⟩
           · rw [List.getElem?_append_right (by rw [hgl]; exact h1), hgl, List.getElem?_map] at hj
             cases hoo : os[j - g]? with
             | none => rw [hoo] at hj; cases hj
             | some o0 =>
               rw [hoo] at hj; cases hj
               have hlt : j - g < I.length := by rw [← o1]; exact (List.getElem?_eq_some_iff.1 hoo).1
               obtain ⟨o', a1, a2⟩ := hblkI _ _ (List.getElem?_eq_getElem hlt)
               rw [hoo] at a1; cases a1
               exact .inr ⟨j - g, _, o', by omega, List.getElem?_eq_getElem hlt, hoo, a2, rfl⟩
         have hownOld : ∀ b, owned βc (gm X.G ++ os.map (fun o => (o.ren (renIn g I)).blur)) b → ∃ (k i : Nat) (o0 : Ob) (p : Pl), I[k]? = some i ∧ os[k]? = some o0 ∧ s2.blk i = some o0 ∧ o0.own = true ∧ β i = some p ∧ o0.foot p b := by
           rintro b ⟨j, o, p, h1, h2, h3, h4⟩
           rcases hM j o h1 with ⟨_, gg, _, rfl⟩ | ⟨k, i, o0, rfl, q1, q2, q3, rfl⟩
           · cases h2
           · rw [hβcI k i q1] at h3
             rw [Ob.blur_own, Ob.ren_own] at h2
             have hl := lend_own h2
             rw [hl] at h2 q2
             exact ⟨k, i, o0, p, q1, q2, q3, h2, h3, lend_foot.1 ((Ob.ren_foot _).1 (Ob.blur_foot.1 h4))⟩
         have hownMay : ∀ b, owned βc (gm X.G ++ os.map (fun o => (o.ren (renIn g I)).blur)) b → D.B ≤ b ∨ D.F b := fun b hb => by
           obtain ⟨k, i, o0, p, _, _, q3, q4, q5, q6⟩ := hownOld b hb
           obtain ⟨p', r1, _, r3⟩ := hB.mem i o0 q3
           rw [q5] at r1; cases r1
           exact r3 q4 b q6
         have hH : HeapOk βc (gm X.G ++ os.map (fun o => (o.ren (renIn g I)).blur)) w := by
           refine ⟨fun j o hj => ?_, fun j p hj => ?_, fun j j' o o' p p' b hj hj' how hng hp hp' hf hf' => ?_⟩
           · rcases hM j o hj with ⟨h1, gg, h2, rfl⟩ | ⟨k, i, o0, rfl, q1, q2, q3, rfl⟩
             · obtain ⟨k1, k2, k3, k4⟩ := hB.glob j gg h2
               exact ⟨.blk gg.1, by rw [hβcg j h1]; exact k1, by have := Nat.le_trans hC.base hC.size; omega, segsOk_same (fun _ _ h => by cases h) rfl k4, fun h => by cases h⟩
             · obtain ⟨p, r1, r2, _⟩ := hB.mem i o0 q3
               refine ⟨p, by rw [hβcI k i q1]; exact r1, Ob.ok_blur (Ob.ok_ren (hren _ fun id hid => ?_) (lend_ok r2))⟩
               exact List.mem_append_right _ (List.mem_flatMap.2 ⟨lend c.ro o0, List.mem_of_getElem? q2, hid⟩)
           · have hj2 : (if j < g then β j else (I[j - g]?).bind β) = some p := hj
             split at hj2
             · rename_i h1
               exact ⟨_, List.getElem?_eq_getElem (by simp [hgl]; omega)⟩
             · rename_i h1
               cases hI : I[j - g]? with
               | none => rw [hI] at hj2; cases hj2
               | some i =>
                 have := (List.getElem?_eq_some_iff.1 hI).1
                 exact ⟨_, List.getElem?_eq_getElem (by simp [hgl]; omega)⟩
           · rcases hM j o hj with ⟨_, gg, _, rfl⟩ | ⟨k, i, o0, rfl, q1, q2, q3, rfl⟩
             · cases how
             · rw [Ob.blur_own, Ob.ren_own] at how
               rw [lend_own how] at how
               rw [hβcI k i q1] at hp
               rcases hM j' o' hj' with ⟨h1, gg, h2, rfl⟩ | ⟨k', i', o0', rfl, t1, t2, t3, rfl⟩
               · exfalso
                 rw [hβcg j' h1, (hB.glob j' gg h2).1] at hp'
                 cases hp'
                 have hf' : b = gg.1 := hf'
                 subst hf'
                 have hf := lend_foot.1 ((Ob.ren_foot _).1 (Ob.blur_foot.1 hf))
                 obtain ⟨p', r1, _, r3⟩ := hB.mem i o0 q3
                 rw [hp] at r1; cases r1
                 obtain ⟨_, k2, k3, _⟩ := hB.glob j' gg h2
                 rcases r3 how gg.1 hf with h | h
                 · omega
                 · exact k3 h
               · rw [hβcI k' i' t1] at hp'
                 have := hB.inj i i' o0 o0' p p' b q3 t3 how (lend_gone (Ob.gone_ren _ (Ob.gone_blur hng))) hp hp' (lend_foot.1 ((Ob.ren_foot _).1 (Ob.blur_foot.1 hf))) (lend_foot.1 ((Ob.ren_foot _).1 (Ob.blur_foot.1 hf')))
                 subst this
                 rw [nodupB_ok hnd k k' i q1 t1]
         have hGl : GlobOk X.G βc w := fun j gg hj => by
           obtain ⟨k1, k2, _, k4⟩ := hB.glob j gg hj
           exact ⟨by rw [hβcg j (List.getElem?_eq_some_iff.1 hj).1]; exact k1, by have := Nat.le_trans hC.base hC.size; omega, k4⟩
         -- the run
         obtain ⟨dst, op, type, pos, after, guard⟩ := o
         simp only at ho hd hK ⊢; subst ho
         obtain ⟨xs, hargs, hex⟩ := hent β a.eval hargs
         have hrun : (execOp a.eval ⟨dst, .call cl, type, pos, after, guard⟩).run P w = .ok (.enter c.f xs.toArray) w := by
           rw [hex]
           simp only [callFunc, Sem.run_bind, Sem.run_pure, Result.andThen_ok, run_program, hfn, hname, hbody, Bool.false_eq_true, if_false]
         have hca : All2 (V.rel βc) (args.map fun v => (v.ren (renIn g I)).blur) xs := by
           have := all2_map (R' := V.rel βc) (f := V.blur) (fun _ _ h => V.blur_rel h) (vs_ren (hren (args.flatMap V.ids) fun i hi => List.mem_append_left _ hi) hargs)
           rw [List.map_map] at this; exact this
         unfold Oper.wp
         rw [hrun]
         simp only [Oper.upon]
         refine (hrok βc xs w hH hGl hca).mono ?_
         rintro e w' ⟨v0, objs, v, β', hhas, rfl, hle, hH', hmay', hv, hC'⟩
         obtain ⟨hlen, wa, wb, hwa, hwb⟩ := hsh v0 objs hhas
         obtain ⟨wa1, wa2⟩ := wrOld_ok hwa (by omega) hnd
         obtain ⟨wb1, wb2⟩ := wrNew_ok hwb
         refine hK v0 objs wa wb hhas hwa hwb _ _ ?_
         have hbase := Nat.le_trans hC.base hC.size
         -- the numbers behind it
         let β2 : Bm := fun i => if fresh ≤ i ∧ i < fresh + m then β' (g + I.length + (i - fresh)) else β i
         have hβold : ∀ i p, β i = some p → ¬ (fresh ≤ i ∧ i < fresh + m) := fun i p hp hi => by
           obtain ⟨u, hu⟩ := hB.dom i p hp
           rw [hnewfree i hi.1 hi.2] at hu; cases hu
         have hβ2old : ∀ i, ¬ (fresh ≤ i ∧ i < fresh + m) → β2 i = β i := fun i hi => by show (if _ then _ else _) = _; rw [if_neg hi]
         have hβ2new : ∀ i, fresh ≤ i → i < fresh + m → β2 i = β' (g + I.length + (i - fresh)) := fun i h1 h2 => by show (if _ then _ else _) = _; rw [if_pos ⟨h1, h2⟩]
         have hle2 : β.le β2 := fun i p hp => by rw [hβ2old i (hβold i p hp)]; exact hp
         have hβ'I : ∀ k i p, I[k]? = some i → β' (g + k) = some p → β i = some p := fun k i p hi hp => by
           obtain ⟨o, a1, a2⟩ := hblkI k i hi
           obtain ⟨p', r1, _, _⟩ := hB.mem i o a2
           have := hle (g + k) p' (by rw [hβcI k i hi]; exact r1)
           rw [hp] at this; cases this; exact r1
         have hout : ∀ l : List Nat, RenOn (renOut g I fresh) l β' β2 := fun l j _ p hp => by
           unfold renOut
           by_cases h1 : j < g
           · rw [show Nat.blt j g = true from by simpa using h1]
             simp only [if_true]
             rw [hβ2old j (by omega)]
             cases hgg : X.G[j]? with
             | none => rw [List.getElem?_eq_none_iff] at hgg; exact absurd h1 (by show ¬ j < X.G.length; omega)
             | some gg =>
               have k1 := (hB.glob j gg hgg).1
               have := hle j _ (by rw [hβcg j h1]; exact k1)
               rw [hp] at this; cases this; exact k1
           · have hb : Nat.blt j g = false := by
               cases hb : Nat.blt j g
               · rfl
               · exact absurd (by simpa using hb) h1
             rw [hb]
             simp only [Bool.false_eq_true, if_false]
             cases hI : I[j - g]? with
             | some i =>
               simp only
               have hif := hIg _ _ hI
               rw [hβ2old i (by omega)]
               exact hβ'I (j - g) i p hI (by rw [show g + (j - g) = j by omega]; exact hp)
             | none =>
               simp only
               rw [List.getElem?_eq_none_iff] at hI
               obtain ⟨o, hoj⟩ := hH'.dom j p hp
               have hjl := (List.getElem?_eq_some_iff.1 hoj).1
               simp only [List.length_append, hgl] at hjl
               have hjm : j - g - I.length < m := by omega
               rw [hβ2new _ (by omega) (by omega), show g + I.length + (fresh + (j - g - I.length) - fresh) = j by omega]
               exact hp
         -- what is written
         have hlook : ∀ i, (look (wa ++ wb) i = none ∧ ¬ (fresh ≤ i ∧ i < fresh + m)) ∨ (∃ (k : Nat) (o0 q : Ob), I[k]? = some i ∧ os[k]? = some o0 ∧ s2.blk i = some o0 ∧ objs[k]? = some q ∧ look (wa ++ wb) i = some (some (q.ren (renOut g I fresh))) ∧ okObj o0 q) ∨
             (∃ (j : Nat) (q : Ob), i = fresh + j ∧ j < m ∧ objs[I.length + j]? = some q ∧ look (wa ++ wb) i = some (some (q.ren (renOut g I fresh))) ∧ (q = .gone ∨ q.own = true)) := fun i => by
           rw [look_append]
           cases h1 : look wa i with
           | some v =>
             obtain ⟨k, o0, q, a1, a2, a3, rfl, a5⟩ := wa1 i v h1
             obtain ⟨o', b1, b2⟩ := hblkI k i a1
             rw [a2] at b1
             have b1 := Option.some.inj b1
             have b3 := lend_own (o := o') (ro := c.ro) (by rw [← b1]; exact a5.1)
             have b1 : o0 = o' := by rw [b1, b3]
             subst b1
             rw [List.getElem?_take] at a3
             split at a3
             · exact .inr (.inl ⟨k, o0, q, a1, a2, b2, a3, rfl, a5⟩)
             · cases a3
           | none =>
             simp only
             rw [wb1]
             by_cases h2 : fresh ≤ i
             · rw [if_pos h2, List.getElem?_drop]
               by_cases h3 : i < fresh + m
               · have hlt : I.length + (i - fresh) < objs.length := by omega
                 have hq := List.getElem?_eq_getElem hlt
                 refine .inr (.inr ⟨i - fresh, _, by omega, by omega, hq, by rw [hq]; rfl, ?_⟩)
                 exact wb2 (i - fresh) _ (by rw [List.getElem?_drop]; exact hq)
               · refine .inl ⟨?_, by omega⟩
                 rw [List.getElem?_eq_none (by omega)]; rfl
             · rw [if_neg h2]; exact .inl ⟨rfl, by omega⟩
         have hM' : ∀ k q, objs[k]? = some q → (gm X.G ++ objs)[g + k]? = some q := fun k q hq => by
           rw [List.getElem?_append_right (by omega), hgl, Nat.add_sub_cancel_left]; exact hq
         have hunch : ∀ i o p, s2.blk i = some o → o ≠ .gone → β i = some p → look (wa ++ wb) i = none → ∀ b, o.foot p b → w'.heap[b]? = w.heap[b]? := fun i o p h1 h2 h3 h4 b hb => by
           obtain ⟨p', r1, r2, _⟩ := hB.mem i o h1
           rw [h3] at r1; cases r1
           have hlt := Ob.foot_lt r2 h2 b hb
           refine hC'.block b hlt fun hF => ?_
           obtain ⟨k, i', o0, p', q1, q2, q3, q4, q5, q6⟩ := hownOld b hF
           have := hB.inj i' i o0 o p' p b q3 h1 q4 h2 q5 h3 q6 hb
           subst this
           obtain ⟨q, _, hq⟩ := wa2 k i' o0 q1 q2 q4
           rw [look_append, hq] at h4
           cases h4
         have hCw : Chg D w' := hC.later hC'.os hC'.tape hC'.output hC'.size (fun k hk hF => hC'.block k (by show k < w.heap.size; omega) fun hO => by
           rcases hownMay k hO with h1 | h1
           · omega
           · exact hF h1)
         have hblk : ∀ i, upd s2.blk (look (wa ++ wb)) i = match look (wa ++ wb) i with | some v => v | none => s2.blk i := fun i => by cases h : look (wa ++ wb) i <;> simp [upd, h]
         have hRep : RepB X D β2 ⟨s2.tmp, upd s2.blk (look (wa ++ wb))⟩ a w' := by
           refine ⟨hB.size, fun t => V.rel_mono hle2 _ _ (hB.tmps t), hB.defers, fun i o hi => ?_, fun i p hi => ?_, fun i i' o o' p p' b hi hi' how hng hp hp' hf hf' => ?_, fun i gg hgg => ?_⟩
           · simp only [hblk] at hi
             rcases hlook i with ⟨h1, h2⟩ | ⟨k, o0, q, h1, h2, h3, h4, h5, h6, h7⟩ | ⟨j, q, rfl, h2, h3, h4, h5⟩
             · rw [h1] at hi
               obtain ⟨p, r1, r2, r3⟩ := hB.mem i o hi
               refine ⟨p, hle2 i p r1, ?_, r3⟩
               by_cases hg : o = .gone
               · subst hg; exact trivial
               · exact Ob.ok_same hle2 hC'.size r2 (hunch i o p hi hg r1 h1)
             · rw [h5] at hi; cases hi
               obtain ⟨p', t1, t2⟩ := hH'.mem (g + k) q (hM' k q h4)
               obtain ⟨p, r1, _, r3⟩ := hB.mem i o0 h3
               have := hβ'I k i p' h1 t1
               exact ⟨p', hle2 i p' this, Ob.ok_ren (hout _) t2, fun how b hb => by
                 rw [Ob.ren_own] at how
                 rcases hmay' _ q p' (hM' k q h4) how t1 b ((Ob.ren_foot _).1 hb) with h | h
                 · exact .inl (Nat.le_trans hbase h)
                 · exact hownMay b h⟩
             · rw [h4] at hi; cases hi
               obtain ⟨p', t1, t2⟩ := hH'.mem (g + (I.length + j)) q (hM' _ q h3)
               refine ⟨p', by rw [hβ2new _ (by omega) (by omega), show g + I.length + (fresh + j - fresh) = g + (I.length + j) by omega]; exact t1, Ob.ok_ren (hout _) t2, fun how => ?_⟩
               rw [Ob.ren_own] at how
               intro b hb
               rcases hmay' _ q p' (hM' _ q h3) how t1 b ((Ob.ren_foot _).1 hb) with h | h
               · exact .inl (Nat.le_trans hbase h)
               · exact hownMay b h
           · simp only [hblk]
             have hi2 : (if fresh ≤ i ∧ i < fresh + m then β' (g + I.length + (i - fresh)) else β i) = some p := hi
             rcases hlook i with ⟨h1, h2⟩ | ⟨k, o0, q, h1, h2, h3, h4, h5, h6⟩ | ⟨j, q, rfl, h2, h3, h4, h5⟩
             · rw [if_neg h2] at hi2
               rw [h1]; exact hB.dom i p hi2
             · rw [h5]; exact ⟨_, rfl⟩
             · rw [h4]; exact ⟨_, rfl⟩
           · simp only [hblk] at hi hi'
             -- an object's place among those of the one who was called, or that it is an old one
             rcases hlook i with ⟨h1, h2⟩ | ⟨k, o0, q, h1, h2, h3, h4, h5, h6, h7⟩ | ⟨j, q, rfl, h2, h3, h4, h5⟩
             · -- an old one of one's own that was not handed over
               rw [h1] at hi
               have hpi : β i = some p := by rw [← hβ2old i h2]; exact hp
               rcases hlook i' with ⟨k1, k2⟩ | ⟨k, o0, q, k1, k2, k3, k4, k5, k6, k7⟩ | ⟨j, q, rfl, k2, k3, k4, k5⟩
               · rw [k1] at hi'
                 exact hB.inj i i' o o' p p' b hi hi' how hng hpi (by rw [← hβ2old i' k2]; exact hp') hf hf'
               · have hif := hIg _ _ k1
                 exfalso
                 rw [k5] at hi'; cases hi'
                 rw [hβ2old i' (by omega)] at hp'
                 have hqo : q.own = true := k7.resolve_left (Ob.gone_ren _ hng)
                 obtain ⟨pp, r1, r2, _⟩ := hB.mem i o hi
                 rw [hpi] at r1; cases r1
                 have hlt := Ob.foot_lt r2 (fun e => by rw [e] at how; cases how) b hf
                 have hpk : β' (g + k) = some p' := hle (g + k) p' (by rw [hβcI k i' k1]; exact hp')
                 rcases hmay' _ q p' (hM' k q k4) hqo hpk b ((Ob.ren_foot _).1 hf') with h | h
                 · have : w.heap.size ≤ b := h; omega
                 · obtain ⟨k0, i0, o1, p1, t1, t2, t3, t4, t5, t6⟩ := hownOld b h
                   have := hB.inj i i0 o o1 p p1 b hi t3 how (fun e => by rw [e] at t4; cases t4) hpi t5 hf t6
                   subst this
                   obtain ⟨q', _, hq'⟩ := wa2 k0 i o1 t1 t2 t4
                   rw [look_append, hq'] at h1
                   cases h1
               · exfalso
                 rw [k4] at hi'; cases hi'
                 have hqo : q.own = true := k5.resolve_left (Ob.gone_ren _ hng)
                 rw [hβ2new _ (by omega) (by omega), show g + I.length + (fresh + j - fresh) = g + (I.length + j) by omega] at hp'
                 obtain ⟨pp, r1, r2, _⟩ := hB.mem i o hi
                 rw [hpi] at r1; cases r1
                 have hlt := Ob.foot_lt r2 (fun e => by rw [e] at how; cases how) b hf
                 rcases hmay' _ q p' (hM' _ q k3) hqo hp' b ((Ob.ren_foot _).1 hf') with h | h
                 · have : w.heap.size ≤ b := h; omega
                 · obtain ⟨k, i0, o1, p1, t1, t2, t3, t4, t5, t6⟩ := hownOld b h
                   have := hB.inj i i0 o o1 p p1 b hi t3 how (fun e => by rw [e] at t4; cases t4) hpi t5 hf t6
                   subst this
                   obtain ⟨q', _, hq'⟩ := wa2 k i o1 t1 t2 t4
                   rw [look_append, hq'] at h1
                   cases h1
             · have hif := hIg _ _ h1
               have hpi : β i = some p := by rw [← hβ2old i (by omega)]; exact hp
               rcases hlook i' with ⟨k1, k2⟩ | ⟨k', o0', q', k1, k2, k3, k4, k5, k6, k7⟩ | ⟨j, q', rfl, k2, k3, k4, k5⟩
               · exfalso
                 rw [k1] at hi'
                 rw [h5] at hi; cases hi
                 rw [Ob.ren_own] at how
                 rw [hβ2old i' k2] at hp'
                 obtain ⟨pp, r1, r2, _⟩ := hB.mem i' o' hi'
                 rw [hp'] at r1; cases r1
                 have hlt := Ob.foot_lt r2 hng b hf'
                 have hpk : β' (g + k) = some p := hle (g + k) p (by rw [hβcI k i h1]; exact hpi)
                 rcases hmay' _ q p (hM' k q h4) how hpk b ((Ob.ren_foot _).1 hf) with h | h
                 · have : w.heap.size ≤ b := h; omega
                 · obtain ⟨k0, i0, o1, p1, t1, t2, t3, t4, t5, t6⟩ := hownOld b h
                   have := hB.inj i0 i' o1 o' p1 p' b t3 hi' t4 hng t5 hp' t6 hf'
                   subst this
                   obtain ⟨q', _, hq'⟩ := wa2 k0 i0 o1 t1 t2 t4
                   rw [look_append, hq'] at k1
                   cases k1
               · have hif' := hIg _ _ k1
                 rw [h5] at hi; cases hi
                 rw [k5] at hi'; cases hi'
                 rw [Ob.ren_own] at how
                 rw [hβ2old i' (by omega)] at hp'
                 have hpk : β' (g + k) = some p := hle (g + k) p (by rw [hβcI k i h1]; exact hpi)
                 have hpk' : β' (g + k') = some p' := hle (g + k') p' (by rw [hβcI k' i' k1]; exact hp')
                 have := hH'.inj (g + k) (g + k') q q' p p' b (hM' k q h4) (hM' k' q' k4) how (Ob.gone_ren _ hng) hpk hpk' ((Ob.ren_foot _).1 hf) ((Ob.ren_foot _).1 hf')
                 have hkk : k = k' := by omega
                 subst hkk
                 rw [h1] at k1; cases k1; rfl
               · exfalso
                 rw [k4] at hi'; cases hi'
                 rw [h5] at hi; cases hi
                 rw [hβ2new _ (by omega) (by omega), show g + I.length + (fresh + j - fresh) = g + (I.length + j) by omega] at hp'
                 have hpk : β' (g + k) = some p := hle (g + k) p (by rw [hβcI k i h1]; exact hpi)
                 rw [Ob.ren_own] at how
                 have := hH'.inj (g + k) (g + (I.length + j)) q q' p p' b (hM' k q h4) (hM' _ q' k3) how (Ob.gone_ren _ hng) hpk hp' ((Ob.ren_foot _).1 hf) ((Ob.ren_foot _).1 hf')
                 have := (List.getElem?_eq_some_iff.1 h1).1
                 omega
             · rw [h4] at hi; cases hi
               rw [Ob.ren_own] at how
               rw [hβ2new _ (by omega) (by omega), show g + I.length + (fresh + j - fresh) = g + (I.length + j) by omega] at hp
               have hown := hmay' _ q p (hM' _ q h3) how hp b ((Ob.ren_foot _).1 hf)
               rcases hlook i' with ⟨k1, k2⟩ | ⟨k', o0', q', k1, k2, k3, k4, k5, k6, k7⟩ | ⟨j', q', rfl, k2, k3, k4, k5⟩
               · exfalso
                 rw [k1] at hi'
                 rw [hβ2old i' k2] at hp'
                 obtain ⟨pp, r1, r2, _⟩ := hB.mem i' o' hi'
                 rw [hp'] at r1; cases r1
                 have hlt := Ob.foot_lt r2 hng b hf'
                 rcases hown with h | h
                 · have : w.heap.size ≤ b := h; omega
                 · obtain ⟨k, i0, o1, p1, t1, t2, t3, t4, t5, t6⟩ := hownOld b h
                   have := hB.inj i0 i' o1 o' p1 p' b t3 hi' t4 hng t5 hp' t6 hf'
                   subst this
                   obtain ⟨q', _, hq'⟩ := wa2 k i0 o1 t1 t2 t4
                   rw [look_append, hq'] at k1
                   cases k1
               · exfalso
                 have hif' := hIg _ _ k1
                 rw [k5] at hi'; cases hi'
                 rw [hβ2old i' (by omega)] at hp'
                 have hpk : β' (g + k') = some p' := hle (g + k') p' (by rw [hβcI k' i' k1]; exact hp')
                 have := hH'.inj (g + (I.length + j)) (g + k') q q' p p' b (hM' _ q h3) (hM' k' q' k4) how (Ob.gone_ren _ hng) hp hpk ((Ob.ren_foot _).1 hf) ((Ob.ren_foot _).1 hf')
                 have := (List.getElem?_eq_some_iff.1 k1).1
                 omega
               · rw [k4] at hi'; cases hi'
                 rw [hβ2new _ (by omega) (by omega), show g + I.length + (fresh + j' - fresh) = g + (I.length + j') by omega] at hp'
                 have := hH'.inj (g + (I.length + j)) (g + (I.length + j')) q q' p p' b (hM' _ q h3) (hM' _ q' k3) how (Ob.gone_ren _ hng) hp hp' ((Ob.ren_foot _).1 hf) ((Ob.ren_foot _).1 hf')
                 omega
           · obtain ⟨k1, k2, k3, k4⟩ := hB.glob i gg hgg
             refine ⟨hle2 i _ k1, k2, k3, segsOk_same (Bm.le_refl _) (hC'.block gg.1 (by show gg.1 < w.heap.size; omega) fun hO => ?_) k4⟩
             rcases hownMay gg.1 hO with h | h
             · omega
             · exact k3 h
         exact ⟨hCw, β2, Bm.le_trans hb0 hle2, hRep.put hd (V.rel_ren (hout _) hv)⟩
        clear hids hin
        cases hrr : r.r with
        | det v0 objs0 =>
          rw [hrr] at hef
          obtain ⟨hl, wa, wb, h1, h2, rfl⟩ := hef
          intro o ho hd D s2 a w β hC hb0 hB hargs hrd hwr K Q hK
          obtain ⟨wb1, _⟩ := wrNew_ok h2
          refine core (objs0.length - I.length) (fun v1 objs1 hh => ?_) o ho hd D s2 a w β hC hb0 hB hargs hrd (fun j k1 k2 => ?_) K Q (fun v1 objs1 wa' wb' hh q1 q2 a' w' hR => ?_)
          · rw [hrr] at hh; obtain ⟨rfl, rfl⟩ := hh
            exact ⟨by omega, wa, wb, h1, h2⟩
          · have hl2 : look (wa ++ wb) j ≠ none := by
              rw [look_append, wb1, if_pos k1, List.getElem?_drop]
              have hlt : I.length + (j - fresh) < objs0.length := by omega
              rw [List.getElem?_eq_getElem hlt]
              cases look wa j <;> simp
            cases hlk : look (wa ++ wb) j with
            | none => exact absurd hlk hl2
            | some v =>
              obtain ⟨p, hp, he⟩ := look_mem hlk
              rw [← he, hwr p hp, he]; exact hfree j k1
          · rw [hrr] at hh; obtain ⟨rfl, rfl⟩ := hh
            rw [h1] at q1; rw [h2] at q2; cases q1; cases q2
            exact hK a' w' hR
        | rel T n post v0 objs0 =>
          rw [hrr] at hef hshape
          obtain ⟨hl, rfl⟩ := hef
          intro o ho hd D s2 a w β hC hb0 hB hargs hrd hwr K Q hK
          refine core (n - I.length) (fun v1 objs1 hh => ?_) o ho hd D s2 a w β hC hb0 hB hargs hrd (fun j k1 k2 => ?_) K Q (fun v1 objs1 wa' wb' hh q1 q2 a' w' hR => ?_)
          · rw [hrr] at hh; obtain ⟨x, hx, rfl, rfl⟩ := hh
            have hs := hshape x hx
            simp only [Bool.and_eq_true] at hs
            have hn := Nat.eq_of_beq_eq_true hs.1
            obtain ⟨wa, h1⟩ := wrOld_some (fb := renOut g I fresh) (I := I) (os := os) (qs := objs0 x) o1.symm (by omega) (by simp [List.map_map, Function.comp_def, Ob.blur_own, Ob.ren_own]) hs.2
            have h2 := okKinds_drop hs.2
            rw [List.length_map, o1] at h2
            obtain ⟨wb, h3⟩ := wrNew_some (fb := renOut g I fresh) (fresh := fresh) h2
            exact ⟨by omega, wa, wb, h1, h3⟩
          · rw [hwr j (List.mem_append_right _ (List.mem_map.2 ⟨j - fresh, by simp; omega, by omega⟩))]
            exact hfree j k1
          · rw [hrr] at hh; obtain ⟨x, hx, rfl, rfl⟩ := hh
            refine hK x hx a' w' ?_
            have q1' : wrOld (renOut X.G.length I fresh) I os (List.take I.length (objs0 x)) = some wa' := q1
            have q2' : wrNew (renOut X.G.length I fresh) fresh (List.drop I.length (objs0 x)) = some wb' := q2
            simp only [q1', q2', Option.getD_some]
            exact hR
    · cases h
theorem tryCons_mem {g : Nat} {f : FuncId} {args : List V} {s : S} {fresh : Nat} {I : List Nat} {l : List Path} : ∀ {cs : List Con}, tryCons P g f args s fresh I cs = some l → ∃ c ∈ cs, c.f = f ∧ callGo P g c args s fresh I = some l
  | [], h => by cases h
  | c :: cs, h => by
    unfold tryCons at h
    split at h
    · rename_i hf
      split at h
      · rename_i l' h'
        cases h
        exact ⟨c, List.mem_cons_self, Nat.eq_of_beq_eq_true hf, h'⟩
      · obtain ⟨c', h1, h2⟩ := tryCons_mem h
        exact ⟨c', List.mem_cons_of_mem _ h1, h2⟩
    · obtain ⟨c', h1, h2⟩ := tryCons_mem h
      exact ⟨c', List.mem_cons_of_mem _ h1, h2⟩
theorem callOf_ok {G : List (Nat × List L)} {n : Nat} {cs : List Con} (hcs : ∀ c ∈ cs, c.ok P G) : CallHOk P ⟨G, n⟩ (callOf P G cs) := by
  intro f args s fresh l h hfree cl vs hent
  have h : callAt P G cs f args s fresh = some l := h
  unfold callAt at h
  split at h
  · rename_i fn hfn
    split at h
    · cases h
    · rename_i hb
      simp only [Bool.or_eq_true, not_or, Bool.not_eq_true] at hb
      obtain ⟨c, hc, hf, h2⟩ := tryCons_mem h
      subst hf
      exact call_eff (X := ⟨G, n⟩) (hcs c hc) hfree h2 hfn hb.1 hb.2 cl vs hent
  · cases h
theorem con_ok {G : List (Nat × List L)} {cs : List Con} (hcs : ∀ c ∈ cs, c.ok P G) {c : Con} {fn : Func} {body : Code} (hfn : P.funcs[c.f]? = some fn) (hb : fn.body = some body)
    (H : ∀ args h l, c.paths args h = some l → ∃ r ∈ l, holdsP r.g ∧ (holdsP r.need → r.r.shaped h ∧ ∃ anns, fnVC P G (callOf P G cs) anns fn body args h r)) : c.ok P G := by
  intro args h l hl
  obtain ⟨r, h1, h2, h3⟩ := H args h l hl
  exact ⟨r, h1, h2, fun hn => ⟨(h3 hn).1, fun β xs w hH hg hx => let ⟨anns, hv⟩ := (h3 hn).2; fnVC_ok (callOf_ok hcs) hfn hb hv hH hg hx⟩⟩
end
end Go.Proofs.YtpdijogpbnaplaaDoorHz
namespace Go.Proofs.YtpdijogpbnaplaaDoorHz
open Go Go.RowKit Go.ChangeShapes Go.WideShapes Go.Deep

inductive CK where
  | int (k : IntKind)
  | bool
inductive FK where
  | cell (c : CK)
  | bytes
inductive AK where
  | one (c : CK)
  | agg (cs : List CK)
  | list (e : TypeId) (bytes : Nat) (cs : List CK)
  | listF (e : TypeId) (bytes : Nat) (k : IntKind) (cs : List FK)
def ckOf (P : Program) (t : TypeId) : Option CK := match P.underlying t with
  | some .bool => some .bool
  | some (.int k) => some (.int k)
  | _ => none
def cksOf (P : Program) : List TypeId → Option (List CK)
  | [] => some []
  | t :: ts => match ckOf P t, cksOf P ts with
    | some c, some cs => some (c :: cs)
    | _, _ => none
def akList (P : Program) (e : TypeId) : Option AK := match P.underlying e with
  | some (.struct fs) => if oneCellFields P fs && Nat.beq (P.cellsOf e) fs.size then (match cksOf P (fs.toList.map (·.type)) with | some cs => some (.list e (P.bytesOf e) cs) | none => none) else none
  | _ => if Nat.beq (P.cellsOf e) 1 then (match ckOf P e with | some c => some (.list e (P.bytesOf e) [c]) | none => none) else none
def fkOf (P : Program) (k : IntKind) (t : TypeId) : Option FK := match ckOf P t with
  | some c => some (.cell c)
  | none => match P.underlying t with
    | some (.slice e) => match P.underlying e with
      | some (.int k') => if decide (k' = k) && Nat.beq (P.cellsOf e) 1 && Nat.ble 1 (P.bytesOf e) then some .bytes else none
      | _ => none
    | _ => none
def fksOf (P : Program) (k : IntKind) : List TypeId → Option (List FK)
  | [] => some []
  | t :: ts => match fkOf P k t, fksOf P k ts with
    | some c, some cs => some (c :: cs)
    | _, _ => none
def akListF (P : Program) (k : IntKind) (e : TypeId) : Option AK := match P.underlying e with
  | some (.struct fs) => if oneCellFields P fs && Nat.beq (P.cellsOf e) fs.size then (match fksOf P k (fs.toList.map (·.type)) with | some cs => some (.listF e (P.bytesOf e) k cs) | none => none) else none
  | _ => none
def akAgg (P : Program) (t : TypeId) : Option AK := match P.cellTypes P.depth t with
  | some ts => if Nat.beq (P.cellsOf t) ts.length then (match cksOf P ts with | some cs => some (.agg cs) | none => none) else none
  | none => none
def flatFs (go : TypeId → Option (List CK)) (cells : TypeId → Nat) (all : Nat) : List Field → Nat → Option (List CK)
  | [], off => if Nat.beq off all then some [] else none
  | f :: r, off => if Nat.beq f.offset off && Nat.ble (off + cells f.type) all then (match go f.type, flatFs go cells all r (off + cells f.type) with
    | some a, some b => some (a ++ b)
    | _, _ => none) else none
def flatCK (P : Program) : Nat → TypeId → Option (List CK)
  | 0, _ => none
  | n + 1, t => match P.underlying t with
    | some (.struct fs) => flatFs (flatCK P n) P.cellsOf (P.cellsOf t) fs.toList 0
    | _ => if Nat.beq (P.cellsOf t) 1 then (match ckOf P t with | some c => some [c] | none => none) else none
def akListN (P : Program) (e : TypeId) : Option AK := match flatCK P 20 e with
  | some cs => some (.list e (P.bytesOf e) cs)
  | none => none
def akOf (P : Program) (t : TypeId) : Option AK := match P.underlying t with
  | some (.struct _) | some (.array _ _) => akAgg P t
  | some (.slice e) => match akList P e with
    | some k => some k
    | none => match akListF P .u8 e with
      | some k => some k
      | none => akListN P e
  | _ => match ckOf P t with
    | some c => some (.one c)
    | none => none
def aksOf (P : Program) : List TypeId → Option (List AK)
  | [] => some []
  | t :: ts => match akOf P t, aksOf P ts with
    | some k, some ks => some (k :: ks)
    | _, _ => none
def CK.l (c : CK) (l : L) : Prop := match c with
  | .int k => ∃ n : Int, l = .int k (.tm n) ∧ k.min ≤ n ∧ n ≤ k.max
  | .bool => ∃ b : Bool, l = .bool (.tm b)
def CK.col (n : Nat) (c : CK) (col : Col) : Prop := match c with
  | .int k => ∃ f : Nat → Int, col = .ints k f ∧ ∀ i, i < n → k.min ≤ f i ∧ f i ≤ k.max
  | .bool => ∃ f : Nat → Bool, col = .bools f
def FK.col (n id : Nat) (k : IntKind) (dom : Nat → Bool) (vis : Nat → Nat → Bool) (g : Nat → Nat → Int) (c : FK) (col : Col) : Prop := match c with
  | .cell c => CK.col n c col
  | .bytes => ∃ bb lo ln : Nat → Nat, col = .fsubs id bb lo ln ∧ ∀ i, i < n → dom (bb i) = true ∧ ln i ≤ 140737488351232 ∧ ∀ j, j < ln i → vis (bb i) (lo i + j) = true ∧ k.min ≤ g (bb i) (lo i + j) ∧ g (bb i) (lo i + j) ≤ k.max
def shapes : List AK → Nat → List V → List Ob → Prop
  | [], _, vs, h => vs = [] ∧ h = []
  | .one c :: ks, id, vs, h => ∃ l vs', vs = .val (.one l) :: vs' ∧ c.l l ∧ shapes ks id vs' h
  | .agg cs :: ks, id, vs, h => ∃ ls vs', vs = .val (.agg ls) :: vs' ∧ All2 CK.l cs ls ∧ shapes ks id vs' h
  | .list e bytes cs :: ks, id, vs, h => ∃ n cols vs' h', vs = .val (.one (.vec id)) :: vs' ∧ h = .vec false e n cols :: h' ∧ n * bytes ≤ 140737488351232 ∧ All2 (CK.col n) cs cols ∧ shapes ks (id + 1) vs' h'
  | .listF e bytes k cs :: ks, id, vs, h => ∃ n cols dom vis g vs' h', vs = .val (.one (.vec id)) :: vs' ∧ h = .vec false e n cols :: .rof k dom vis g :: h' ∧ n * bytes ≤ 140737488351232 ∧ All2 (FK.col n (id + 1) k dom vis g) cs cols ∧ shapes ks (id + 2) vs' h'

section
variable {P : Program} {w : World}
theorem ck_cell {r : Reach} {base : Nat} {t : TypeId} {c : CK} (hc : ckOf P t = some c) {x : Value} (hx : Cell.okWide P w r base t x) : ∃ l, c.l l ∧ ∀ β : Bm, l.rel β x := by
  unfold ckOf at hc
  split at hc
  · rename_i ht
    cases hc
    unfold Cell.okWide at hx
    split at hx <;> simp_all [Cell.ok]
    split at hx <;> simp_all
    rename_i b
    exact ⟨.bool (.tm b), ⟨b, rfl⟩, fun β => rfl⟩
  · rename_i k ht
    cases hc
    unfold Cell.okWide at hx
    rw [ht] at hx
    have h2 : Cell.ok P w r base t x := by split at hx <;> first | exact hx | simp_all
    unfold Cell.ok at h2
    rw [ht] at h2
    cases x <;> simp only at h2
    rename_i k' n
    obtain ⟨rfl, h3⟩ := h2
    exact ⟨.int k' (.tm n), ⟨n, rfl, h3⟩, fun β => rfl⟩
  · cases hc
theorem ck_cells {r : Reach} {base : Nat} : ∀ {ts : List TypeId} {cs : List CK}, cksOf P ts = some cs → ∀ xs : List Value, xs.length = ts.length → (∀ (i : Nat) v, xs[i]? = some v → ∃ u, ts[i]? = some u ∧ Cell.okWide P w r base u v) →
    ∃ ls, All2 CK.l cs ls ∧ ∀ β : Bm, All2 (L.rel β) ls xs
  | [], cs, h, xs, hl, _ => by
    cases h
    cases xs with
    | nil => exact ⟨[], trivial, fun _ => trivial⟩
    | cons _ _ => simp at hl
  | t :: ts, cs, h, xs, hl, hx => by
    unfold cksOf at h
    split at h
    · rename_i c cs' h1 h2
      cases h
      cases xs with
      | nil => simp at hl
      | cons v xs =>
        obtain ⟨u, hu, hok⟩ := hx 0 v rfl
        simp at hu; subst hu
        obtain ⟨l, a1, a2⟩ := ck_cell h1 hok
        obtain ⟨ls, b1, b2⟩ := ck_cells h2 xs (by simpa using hl) (fun i v hi => by simpa using hx (i + 1) v (by simpa using hi))
        exact ⟨l :: ls, ⟨a1, b1⟩, fun β => ⟨a2 β, b2 β⟩⟩
    · cases h
theorem wf_int {k : IntKind} {n : Int} (h : (Lit.int k n).wf = true) : k.min ≤ n ∧ n ≤ k.max := by
  simpa [Lit.wf, Bool.and_eq_true] using h
theorem ck_trod {H : Type} {enc : TypeId × Value → H} {base : Nat} {spare : Nat → Bool} {held : Bool} {t : TypeId} {c : CK} (hc : ckOf P t = some c) {fuel : Nat} {x : Value} {y : DataW H × List MemPlace} (hx : DataW.trod enc P w base spare held fuel t [x] = some y) : ∃ l, c.l l ∧ ∀ β : Bm, l.rel β x := by
  unfold ckOf at hc
  split at hc
  · rename_i ht
    cases hc
    obtain ⟨b, h1, _⟩ := DataW.trod_bool ht hx
    cases h1
    exact ⟨.bool (.tm b), ⟨b, rfl⟩, fun β => rfl⟩
  · rename_i k ht
    cases hc
    obtain ⟨n, h1, _, h3⟩ := DataW.trod_int ht hx
    cases h1
    exact ⟨.int k (.tm n), ⟨n, rfl, wf_int h3⟩, fun β => rfl⟩
  · cases hc
theorem ck_col {c : CK} {n : Nat} {V : Nat → Value} (h : ∀ i, i < n → ∃ l, c.l l ∧ ∀ β : Bm, l.rel β (V i)) : ∃ col, CK.col n c col ∧ ∀ i, i < n → Col.rel col i (V i) := by
  cases c with
  | int k =>
    refine ⟨.ints k (fun i => match V i with | .int _ m => m | _ => 0), ⟨_, rfl, fun i hi => ?_⟩, fun i hi => ?_⟩
    · obtain ⟨l, ⟨m, rfl, hm⟩, hr⟩ := h i hi
      have := hr (fun _ => none)
      simp only [L.rel, N.v] at this
      rw [this]; exact hm
    · obtain ⟨l, ⟨m, rfl, hm⟩, hr⟩ := h i hi
      have := hr (fun _ => none)
      simp only [L.rel, N.v] at this
      simp only [Col.rel, this]
  | bool =>
    refine ⟨.bools (fun i => match V i with | .bool b => b | _ => false), ⟨_, rfl⟩, fun i hi => ?_⟩
    obtain ⟨l, ⟨b, rfl⟩, hr⟩ := h i hi
    have := hr (fun _ => none)
    simp only [L.rel, B.v] at this
    simp only [Col.rel, this]
theorem ck_cols {n : Nat} {V : Nat → Nat → Value} : ∀ {cs : List CK} (j0 : Nat), (∀ (j : Nat) c, cs[j]? = some c → ∀ i, i < n → ∃ l, c.l l ∧ ∀ β : Bm, l.rel β (V (j0 + j) i)) →
    ∃ cols, All2 (CK.col n) cs cols ∧ cols.length = cs.length ∧ ∀ (j : Nat) c, cols[j]? = some c → ∀ i, i < n → Col.rel c i (V (j0 + j) i)
  | [], _, _ => ⟨[], trivial, rfl, fun j c h => by simp at h⟩
  | c :: cs, j0, h => by
    obtain ⟨col, a1, a2⟩ := ck_col (n := n) (V := V (j0 + 0)) (h 0 c rfl)
    obtain ⟨cols, b1, b2, b3⟩ := ck_cols (n := n) (V := V) (cs := cs) (j0 + 1) (fun j c hj i hi => by
      have := h (j + 1) c (by simpa using hj) i hi
      rwa [show j0 + (j + 1) = j0 + 1 + j by omega] at this)
    refine ⟨col :: cols, ⟨a1, b1⟩, by simp [b2], fun j c hj i hi => ?_⟩
    cases j with
    | zero => simp at hj; subst hj; exact a2 i hi
    | succ j => rw [show j0 + (j + 1) = j0 + 1 + j by omega]; exact b3 j c (by simpa using hj) i hi
theorem cks_get : ∀ {ts : List TypeId} {cs : List CK}, cksOf P ts = some cs → cs.length = ts.length ∧ ∀ (j : Nat) t, ts[j]? = some t → ∃ c, cs[j]? = some c ∧ ckOf P t = some c
  | [], cs, h => by cases h; exact ⟨rfl, fun j t h => by simp at h⟩
  | t0 :: ts, cs, h => by
    unfold cksOf at h
    split at h
    · rename_i c cs' h1 h2
      cases h
      obtain ⟨a, b⟩ := cks_get h2
      refine ⟨by simp [a], fun j t hj => ?_⟩
      cases j with
      | zero => simp at hj; subst hj; exact ⟨c, rfl, h1⟩
      | succ j => simpa using b j t (by simpa using hj)
    · cases h
variable {H : Type} {enc : TypeId × Value → H}
structure ListArg (P : Program) (w : World) (e : TypeId) (bytes : Nat) (cs : List CK) (x : Value) (d : DataW H) : Prop where
  ex : ∃ n cols, All2 (CK.col n) cs cols ∧ (Ob.vec false e n cols).ok (fun _ => none) w (.val x) ∧ (∃ a m c, x = .slice a m c) ∧ (n = 0 ∨ ∃ elems rest, d = .slice elems rest ∧ elems.length = n)
theorem addr_at (b o n : Nat) : (⟨b, o, none⟩ : Addr).add n = ⟨b, o + n, none⟩ := by
  unfold Addr.add; split
  · rename_i h; subst h; rfl
  · rfl
theorem flatFs_ok {go : TypeId → Option (List CK)} {all n : Nat} {b2 : Nat} {sp : Nat → Bool} {held : Bool} {cs : List Value}
    (hgo : ∀ t cks, go t = some cks → ∀ (cs : List Value) (y : DataW H × List MemPlace), DataW.trod enc P w b2 sp held n t cs = some y → cs.length = P.cellsOf t → cks.length = cs.length ∧ ∀ (j : Nat) c, cks[j]? = some c → ∃ v, cs[j]? = some v ∧ ∃ l, c.l l ∧ ∀ β : Bm, l.rel β v) (hl : cs.length = all) :
    ∀ (fs : List Field) (off : Nat) (cks : List CK), flatFs go P.cellsOf all fs off = some cks → (∀ f ∈ fs, ∃ y : DataW H × List MemPlace, DataW.trod enc P w b2 sp held n f.type ((cs.drop f.offset).take (P.cellsOf f.type)) = some y) →
      off + cks.length = all ∧ ∀ (j : Nat) c, cks[j]? = some c → ∃ v, cs[off + j]? = some v ∧ ∃ l, c.l l ∧ ∀ β : Bm, l.rel β v
  | [], off, cks, h, _ => by
    unfold flatFs at h
    split at h
    · rename_i ho
      cases h
      exact ⟨by have := Nat.eq_of_beq_eq_true ho; simpa using this, fun j c hj => by simp at hj⟩
    · cases h
  | f :: r, off, cks, h, hf => by
    unfold flatFs at h
    split at h
    · rename_i hc
      simp only [Bool.and_eq_true] at hc
      have h1 := Nat.eq_of_beq_eq_true hc.1
      have h2 := Nat.le_of_ble_eq_true hc.2
      split at h
      · rename_i a b ha hb
        cases h
        obtain ⟨y, hy⟩ := hf f List.mem_cons_self
        rw [h1] at hy
        have hlen : ((cs.drop off).take (P.cellsOf f.type)).length = P.cellsOf f.type := by rw [List.length_take, List.length_drop]; omega
        obtain ⟨g1, g2⟩ := hgo _ _ ha _ _ hy hlen
        obtain ⟨i1, i2⟩ := flatFs_ok hgo hl r _ b hb (fun f' hf' => hf f' (List.mem_cons_of_mem _ hf'))
        rw [hlen] at g1
        refine ⟨by rw [List.length_append]; omega, fun j c hj => ?_⟩
        by_cases hja : j < a.length
        · rw [List.getElem?_append_left hja] at hj
          obtain ⟨v, v1, v2⟩ := g2 j c hj
          refine ⟨v, ?_, v2⟩
          rw [List.getElem?_take, if_pos (by omega), List.getElem?_drop] at v1
          exact v1
        · rw [List.getElem?_append_right (by omega)] at hj
          obtain ⟨v, v1, v2⟩ := i2 _ c hj
          exact ⟨v, by rw [← v1]; congr 1; omega, v2⟩
      · cases h
    · cases h
theorem flatCK_ok {b2 : Nat} {sp : Nat → Bool} {held : Bool} : ∀ (m : Nat) (t : TypeId) (cks : List CK), flatCK P m t = some cks → ∀ (fuel : Nat) (cs : List Value) (y : DataW H × List MemPlace), DataW.trod enc P w b2 sp held fuel t cs = some y → cs.length = P.cellsOf t →
    cks.length = cs.length ∧ ∀ (j : Nat) c, cks[j]? = some c → ∃ v, cs[j]? = some v ∧ ∃ l, c.l l ∧ ∀ β : Bm, l.rel β v
  | 0, _, _, h, _, _, _, _, _ => by cases h
  | m + 1, t, cks, h, fuel, cs, y, hy, hl => by
    unfold flatCK at h
    split at h
    · rename_i fs ht
      obtain ⟨ys, n', _, _, hlen, hyl, hff⟩ := DataW.trod_struct ht hy
      obtain ⟨g1, g2⟩ := flatFs_ok (enc := enc) (P := P) (w := w) (n := n') (fun t cks h cs y hy hl => flatCK_ok m t cks h n' cs y hy hl) hlen fs.toList 0 cks h (fun f hf => by
        obtain ⟨i, hi, rfl⟩ := List.getElem_of_mem hf
        have hi' : i < fs.size := by simpa using hi
        have := hff i (fs[i]'hi') (Array.getElem?_eq_getElem hi')
        have hys : ys[i]? = some (ys[i]'(by omega)) := List.getElem?_eq_getElem (by omega)
        exact ⟨_, by simpa using this.trans hys⟩)
      exact ⟨by omega, fun j c hj => by simpa using g2 j c hj⟩
    · split at h
      · rename_i hc
        have hC := Nat.eq_of_beq_eq_true hc
        split at h
        · rename_i c hcc
          cases h
          have hl1 : cs.length = 1 := by omega
          match cs, hl1 with
          | [v], _ =>
            refine ⟨rfl, fun j c' hj => ?_⟩
            cases j with
            | zero => simp at hj; subst hj; exact ⟨v, rfl, ck_trod hcc hy⟩
            | succ j => simp at hj
        · cases h
      · cases h
theorem list_arg {r : Reach} {base b2 : Nat} {sp : Nat → Bool} {held : Bool} {t e : TypeId} {bytes : Nat} {cs : List CK} {k : AK} (ht : P.underlying t = some (.slice e)) (hk : akList P e = some k) (hke : k = .list e bytes cs) {x : Value} {d : DataW H} {p : List MemPlace}
    (hx : Value.okWide P w r base t x) (h : DataW.Trod enc P w b2 sp held t x d p) : ListArg (H := H) P w e bytes cs x d := by
  obtain ⟨a0, len0, cap0, rfl⟩ := okWide_slice ht hx
  have hcell : Cell.okWide P w r base t (.slice a0 len0 cap0) := by
    unfold Value.okWide at hx; rw [ht] at hx; exact hx
  have hspot : ∀ a, a0 = some a → a.spot = none ∧ a.block < w.heap.size := by
    rintro a rfl
    unfold Cell.okWide at hcell
    rw [ht] at hcell
    simp only [Cell.ok, ht] at hcell
    obtain ⟨_, _, _, h2, row, cells, h3, _⟩ := hcell
    refine ⟨h2, ?_⟩
    have hne : w.heap[a.block]? ≠ none := by intro hn; simp [World.shape?, hn] at h3
    by_cases hl : a.block < w.heap.size
    · exact hl
    · exact absurd (Array.getElem?_eq_none (Nat.le_of_not_lt hl)) hne
  obtain ⟨fuel, hf⟩ := h
  have hcl : (Value.slice a0 len0 cap0).cells.toList = [.slice a0 len0 cap0] := rfl
  rw [hcl] at hf
  subst hke
  have fin : ∀ (W0 : Nat → Nat → Value), (∀ a, a0 = some a → ∀ i, i < len0 → ∀ j, j < cs.length → w.cell? (a.add (i * cs.length + j)) = some (W0 j i)) → (∀ (j : Nat) c, cs[j]? = some c → ∀ i, i < len0 → ∃ l, c.l l ∧ ∀ β : Bm, l.rel β (W0 j i)) →
      (a0 = none → len0 = 0) → len0 ≤ cap0 → cap0 ≤ maxLen → (len0 = 0 ∨ ∃ elems rest, d = .slice elems rest ∧ elems.length = len0) → ListArg (H := H) P w e bytes cs (.slice a0 len0 cap0) d := by
    intro W0 h1 h2 h3 h4 h5 h6
    obtain ⟨cols, c1, c2, c3⟩ := ck_cols (n := len0) (V := W0) (cs := cs) 0 (fun j c hj i hi => by rw [Nat.zero_add]; exact h2 j c hj i hi)
    refine ⟨len0, cols, c1, ?_, ⟨_, _, _, rfl⟩, h6⟩
    have hm : len0 ≤ 9223372036854775807 := by unfold maxLen at h5; omega
    cases ha : a0 with
    | none =>
      have := h3 ha
      subst this
      exact ⟨hm, .inl ⟨cap0, rfl, rfl, fun h => by cases h⟩⟩
    | some a =>
      obtain ⟨s1, s2⟩ := hspot a ha
      obtain ⟨ab, ao, asp⟩ := a
      simp only at s1; subst s1
      refine ⟨hm, .inr ⟨ab, ao, cap0, rfl, s2, h4, fun i hi j c hj => ?_, fun h => by cases h⟩⟩
      have hjl : j < cs.length := by rw [← c2]; exact (List.getElem?_eq_some_iff.1 hj).1
      refine ⟨W0 j i, ?_, by have := c3 j c hj i hi; rwa [Nat.zero_add] at this⟩
      have := h1 _ ha i hi j hjl
      rw [addr_at] at this
      rw [c2, Nat.add_assoc]; exact this
  unfold akList at hk
  split at hk
  · rename_i fs he
    split at hk
    · rename_i hc
      simp only [Bool.and_eq_true] at hc
      have hC := Nat.eq_of_beq_eq_true hc.2
      split at hk
      · rename_i cs' hcs
        cases hk
        obtain ⟨g1, g2⟩ := cks_get hcs
        have g1' : cs.length = fs.size := by rw [g1]; simp
        rcases open_slice ht hf with ⟨h0, hd⟩ | ⟨a, len, cap, m, n, D, Pl, hcs', hb, hl, hm, hmm, hx', hi⟩
        · cases h0
          exact fin (fun _ _ => default) (fun a h => by cases h) (fun j c _ i hi => by omega) (fun _ => rfl) (Nat.le_refl _) (by decide) (.inl rfl)
        · cases hcs'
          have hlm : len0 ≤ m := by rw [hmm]; split <;> omega
          refine fin (fun j i => (w.cell? (a.add (i * cs.length + j))).getD default) (fun a' ha i hi' j hj => ?_) (fun j c hj i hi' => ?_) (fun h => by cases h) hl hm (.inr ⟨_, _, by cases hx'; rfl, by simp⟩)
          · cases ha
            obtain ⟨cs', q1, q2⟩ := hi i (by omega)
            rw [hC] at q1
            obtain ⟨_, qcl, hat⟩ := World.cells?_some q1
            have := hat j (by omega)
            rw [Go.Deep.add_add] at this
            rw [g1', this]
            have : cs'[j]? = some (cs'[j]'(by omega)) := List.getElem?_eq_getElem (by omega)
            rw [this]; rfl
          · obtain ⟨cs', q1, q2⟩ := hi i (by omega)
            rw [hC] at q1
            obtain ⟨_, qcl, hat⟩ := World.cells?_some q1
            have hjl : j < fs.size := by rw [← g1']; exact (List.getElem?_eq_some_iff.1 hj).1
            have hcj := hat j hjl
            rw [Go.Deep.add_add] at hcj
            have hv : cs'[j]? = some (cs'[j]'(by omega)) := List.getElem?_eq_getElem (by omega)
            rw [hv] at hcj
            obtain ⟨ys, n', hn', hy, hlen, hyl, hff⟩ := DataW.trod_struct he q2
            have hfj : fs[j]? = some (fs[j]'hjl) := Array.getElem?_eq_getElem hjl
            obtain ⟨ho, hk2⟩ := hone_of hc.1 j _ hfj
            have h1 := hff j _ hfj
            rw [ho, hk2] at h1
            have hone' : (cs'.drop j).take 1 = [cs'[j]'(by omega)] := by
              rw [List.drop_eq_getElem_cons (by omega)]
              rfl
            rw [hone'] at h1
            have hys : ys[j]? = some (ys[j]'(by omega)) := List.getElem?_eq_getElem (by omega)
            obtain ⟨c', e1, e2⟩ := g2 j (fs[j]'hjl).type (by simp [hjl])
            rw [hj] at e1; cases e1
            simp only [g1', hcj, Option.getD_some]
            exact ck_trod e2 (h1.trans hys)
      · cases hk
    · cases hk
  · split at hk
    · rename_i hc
      have hC := Nat.eq_of_beq_eq_true hc
      split at hk
      · rename_i c hcs
        cases hk
        rcases open_slice1 ht hC hf with ⟨h0, hd⟩ | ⟨a, len, cap, m, n, V, D, Pl, hcs', hb, hl, hm, hmm, hx', hi⟩
        · cases h0
          exact fin (fun _ _ => default) (fun a h => by cases h) (fun j c _ i hi => by omega) (fun _ => rfl) (Nat.le_refl _) (by decide) (.inl rfl)
        · cases hcs'
          have hlm : len0 ≤ m := by rw [hmm]; split <;> omega
          refine fin (fun _ i => V i) (fun a' ha i hi' j hj => ?_) (fun j c' hj i hi' => ?_) (fun h => by cases h) hl hm (.inr ⟨_, _, by cases hx'; rfl, by simp⟩)
          · cases ha
            have : j = 0 := by simpa using hj
            subst this
            simpa using (hi i (by omega)).1
          · have : j = 0 := by have := (List.getElem?_eq_some_iff.1 hj).1; simpa using this
            subst this
            simp at hj; subst hj
            exact ck_trod hcs (hi i (by omega)).2
      · cases hk
    · cases hk
theorem listN_arg {r : Reach} {base b2 : Nat} {sp : Nat → Bool} {held : Bool} {t e : TypeId} {bytes : Nat} {cs : List CK} {k : AK} (ht : P.underlying t = some (.slice e)) (hk : akListN P e = some k) (hke : k = .list e bytes cs) {x : Value} {d : DataW H} {p : List MemPlace}
    (hx : Value.okWide P w r base t x) (h : DataW.Trod enc P w b2 sp held t x d p) : ListArg (H := H) P w e bytes cs x d := by
  obtain ⟨a0, len0, cap0, rfl⟩ := okWide_slice ht hx
  have hcell : Cell.okWide P w r base t (.slice a0 len0 cap0) := by
    unfold Value.okWide at hx; rw [ht] at hx; exact hx
  have hspot : ∀ a, a0 = some a → a.spot = none ∧ a.block < w.heap.size := by
    rintro a rfl
    unfold Cell.okWide at hcell
    rw [ht] at hcell
    simp only [Cell.ok, ht] at hcell
    obtain ⟨_, _, _, h2, row, cells, h3, _⟩ := hcell
    refine ⟨h2, ?_⟩
    have hne : w.heap[a.block]? ≠ none := by intro hn; simp [World.shape?, hn] at h3
    by_cases hl : a.block < w.heap.size
    · exact hl
    · exact absurd (Array.getElem?_eq_none (Nat.le_of_not_lt hl)) hne
  obtain ⟨fuel, hf⟩ := h
  have hcl : (Value.slice a0 len0 cap0).cells.toList = [.slice a0 len0 cap0] := rfl
  rw [hcl] at hf
  subst hke
  have fin : ∀ (W0 : Nat → Nat → Value), (∀ a, a0 = some a → ∀ i, i < len0 → ∀ j, j < cs.length → w.cell? (a.add (i * cs.length + j)) = some (W0 j i)) → (∀ (j : Nat) c, cs[j]? = some c → ∀ i, i < len0 → ∃ l, c.l l ∧ ∀ β : Bm, l.rel β (W0 j i)) →
      (a0 = none → len0 = 0) → len0 ≤ cap0 → cap0 ≤ maxLen → (len0 = 0 ∨ ∃ elems rest, d = .slice elems rest ∧ elems.length = len0) → ListArg (H := H) P w e bytes cs (.slice a0 len0 cap0) d := by
    intro W0 h1 h2 h3 h4 h5 h6
    obtain ⟨cols, c1, c2, c3⟩ := ck_cols (n := len0) (V := W0) (cs := cs) 0 (fun j c hj i hi => by rw [Nat.zero_add]; exact h2 j c hj i hi)
    refine ⟨len0, cols, c1, ?_, ⟨_, _, _, rfl⟩, h6⟩
    have hm : len0 ≤ 9223372036854775807 := by unfold maxLen at h5; omega
    cases ha : a0 with
    | none =>
      have := h3 ha
      subst this
      exact ⟨hm, .inl ⟨cap0, rfl, rfl, fun h => by cases h⟩⟩
    | some a =>
      obtain ⟨s1, s2⟩ := hspot a ha
      obtain ⟨ab, ao, asp⟩ := a
      simp only at s1; subst s1
      refine ⟨hm, .inr ⟨ab, ao, cap0, rfl, s2, h4, fun i hi j c hj => ?_, fun h => by cases h⟩⟩
      have hjl : j < cs.length := by rw [← c2]; exact (List.getElem?_eq_some_iff.1 hj).1
      refine ⟨W0 j i, ?_, by have := c3 j c hj i hi; rwa [Nat.zero_add] at this⟩
      have := h1 _ ha i hi j hjl
      rw [addr_at] at this
      rw [c2, Nat.add_assoc]; exact this
  unfold akListN at hk
  split at hk
  · rename_i cs' hcs
    cases hk
    rcases open_slice ht hf with ⟨h0, hd⟩ | ⟨a, len, cap, m, n, D, Pl, hcs', hb, hl, hm, hmm, hx', hi⟩
    · cases h0
      exact fin (fun _ _ => default) (fun a h => by cases h) (fun j c _ i hi => by omega) (fun _ => rfl) (Nat.le_refl _) (by decide) (.inl rfl)
    · cases hcs'
      have hlm : len0 ≤ m := by rw [hmm]; split <;> omega
      have hall : ∀ i, i < len0 → ∃ cs' : List Value, (∀ j, j < cs.length → w.cell? (a.add (i * cs.length + j)) = cs'[j]?) ∧ ∀ (j : Nat) c, cs[j]? = some c → ∃ v, cs'[j]? = some v ∧ ∃ l, c.l l ∧ ∀ β : Bm, l.rel β v := fun i hi' => by
        obtain ⟨cs', q1, q2⟩ := hi i (by omega)
        obtain ⟨_, qcl, hat⟩ := World.cells?_some q1
        obtain ⟨f1, f2⟩ := flatCK_ok (enc := enc) (P := P) (w := w) 20 e cs hcs _ cs' _ q2 qcl
        refine ⟨cs', fun j hj => ?_, f2⟩
        have := hat j (by omega)
        rw [Go.Deep.add_add] at this
        rw [f1, qcl]; exact this
      refine fin (fun j i => (w.cell? (a.add (i * cs.length + j))).getD default) (fun a' ha i hi' j hj => ?_) (fun j c hj i hi' => ?_) (fun h => by cases h) hl hm (.inr ⟨_, _, by cases hx'; rfl, by simp⟩)
      · cases ha
        obtain ⟨cs', q1, q2⟩ := hall i hi'
        obtain ⟨v, v1, _⟩ := q2 j (cs[j]'hj) (List.getElem?_eq_getElem hj)
        rw [q1 j hj, v1]; rfl
      · have hjl : j < cs.length := (List.getElem?_eq_some_iff.1 hj).1
        obtain ⟨cs', q1, q2⟩ := hall i hi'
        obtain ⟨v, v1, v2⟩ := q2 j c hj
        simp only [q1 j hjl, v1, Option.getD_some]
        exact v2
  · cases hk
theorem mem_weightsAll {e : TypeId} : ∀ {l : List (DataW H)} {d : DataW H}, d ∈ l → ∀ n ∈ d.weights P e, n ∈ DataW.weightsAll P e l
  | [], _, h, _, _ => by cases h
  | x :: l, d, h, n, hn => by
    simp only [DataW.weightsAll, List.mem_append]
    rcases List.mem_cons.1 h with rfl | h
    · exact .inl hn
    · exact .inr (mem_weightsAll h n hn)
def rofVis (w : World) (k : IntKind) (b j : Nat) : Bool := match w.cell? ⟨b, j, none⟩ with
  | some (.int k' _) => decide (k' = k)
  | _ => false
def rofG (w : World) (b j : Nat) : Int := match w.cell? ⟨b, j, none⟩ with
  | some (.int _ m) => m
  | _ => 0
theorem rof_ok (β : Bm) (k : IntKind) (p : Pl) : (Ob.rof k (fun b => decide (b < w.heap.size)) (rofVis w k) (rofG w)).ok β w p := by
  intro b hb
  refine ⟨of_decide_eq_true hb, fun j hj => ?_⟩
  unfold rofVis at hj
  unfold rofG
  split at hj
  · rename_i k' m hc
    have := of_decide_eq_true hj
    subst this
    rw [hc]
  · cases hj
def FK.val (w : World) (k : IntKind) : FK → Value → Prop
  | .cell c, x => ∃ l, c.l l ∧ ∀ β : Bm, l.rel β x
  | .bytes, x => ∃ b lo n : Nat, fsubIs b lo n x ∧ b < w.heap.size ∧ n ≤ 140737488351232 ∧ ∀ j, j < n → ∃ m, w.cell? ⟨b, lo + j, none⟩ = some (.int k m) ∧ k.min ≤ m ∧ m ≤ k.max
theorem cell?_lt {a : Addr} {v : Value} (h : w.cell? a = some v) : a.spot = none ∧ a.block < w.heap.size := by
  unfold World.cell? at h
  split at h
  · rename_i c q1 q2 hb
    refine ⟨?_, (Array.getElem?_eq_some_iff.1 hb).1⟩
    cases hs : a.spot with
    | none => rfl
    | some _ => rw [hs] at h; cases h
  · cases h
theorem fk_trod {base : Nat} {spare : Nat → Bool} {held : Bool} {k : IntKind} {t : TypeId} {c : FK} (hc : fkOf P k t = some c) {fuel : Nat} {x : Value} {y : DataW H × List MemPlace} (hx : DataW.trod enc P w base spare held fuel t [x] = some y) {b0 : Nat} (hb0 : b0 < w.heap.size)
    (hz : ∀ n ∈ y.1.weights P t, n ≤ reachBytes) : FK.val w k c x := by
  unfold fkOf at hc
  split at hc
  · rename_i c' h1
    cases hc
    exact ck_trod h1 hx
  · split at hc
    · rename_i e ht
      split at hc
      · rename_i k' he
        split at hc
        · rename_i hcc
          cases hc
          simp only [Bool.and_eq_true] at hcc
          have hk : k' = k := of_decide_eq_true hcc.1.1
          subst hk
          have hC := Nat.eq_of_beq_eq_true hcc.1.2
          have hB := Nat.le_of_ble_eq_true hcc.2
          rcases open_slice1 ht hC hx with ⟨h0, hd⟩ | ⟨a, len, cap, m, n, V, D, Pl, hcs', hb, hl, hm, hmm, hx', hi⟩
          · cases h0
            exact ⟨b0, 0, 0, .inl ⟨none, 0, rfl, rfl⟩, hb0, Nat.zero_le _, fun j hj => absurd hj (Nat.not_lt_zero _)⟩
          · cases hcs'
            have hlm : len ≤ m := by rw [hmm]; split <;> omega
            by_cases hlen : len = 0
            · subst hlen
              exact ⟨b0, 0, 0, .inl ⟨_, _, rfl, rfl⟩, hb0, Nat.zero_le _, fun j hj => absurd hj (Nat.not_lt_zero _)⟩
            · obtain ⟨s1, s2⟩ := cell?_lt (hi 0 (by omega)).1
              rw [show a.add 0 = a from by unfold Addr.add; rw [if_pos rfl]] at s1 s2
              obtain ⟨ab, ao, asp⟩ := a
              simp only at s1 s2; subst s1
              refine ⟨ab, ao, len, .inr ⟨ao, cap, rfl, hl, fun _ => rfl⟩, s2, ?_, fun j hj => ?_⟩
              · have h3 := hz ((len + (m - len)) * P.bytesOf e) (by
                  rw [hx']
                  simp [DataW.weights, ht])
                have h4 : len * 1 ≤ (len + (m - len)) * P.bytesOf e := Nat.mul_le_mul (by omega) hB
                unfold reachBytes at h3
                omega
              · obtain ⟨q1, q2⟩ := hi j (by omega)
                obtain ⟨m', r1, _, r3⟩ := DataW.trod_int he q2
                rw [addr_at] at q1
                have r1 : V j = .int k' m' := by simpa using r1
                exact ⟨m', q1.trans (by rw [r1]), wf_int r3⟩
        · cases hc
      · cases hc
    · cases hc
theorem fk_col {k : IntKind} {c : FK} {n id : Nat} {V : Nat → Value} (h : ∀ i, i < n → FK.val w k c (V i)) : ∃ col, FK.col n id k (fun b => decide (b < w.heap.size)) (rofVis w k) (rofG w) c col ∧ ∀ i, i < n → Col.rel col i (V i) := by
  cases c with
  | cell c => exact ck_col h
  | bytes =>
    obtain ⟨F, hF⟩ := choose_lt (α := Nat × Nat × Nat) (p := fun i f => fsubIs f.1 f.2.1 f.2.2 (V i) ∧ f.1 < w.heap.size ∧ f.2.2 ≤ 140737488351232 ∧ ∀ j, j < f.2.2 → ∃ m, w.cell? ⟨f.1, f.2.1 + j, none⟩ = some (.int k m) ∧ k.min ≤ m ∧ m ≤ k.max) (fun i hi => by
      obtain ⟨b, lo, n, h1⟩ := h i hi
      exact ⟨(b, lo, n), h1⟩)
    refine ⟨.fsubs id (fun i => (F i).1) (fun i => (F i).2.1) (fun i => (F i).2.2), ⟨_, _, _, rfl, fun i hi => ?_⟩, fun i hi => (hF i hi).1⟩
    obtain ⟨_, h2, h3, h4⟩ := hF i hi
    refine ⟨decide_eq_true h2, h3, fun j hj => ?_⟩
    obtain ⟨m, g1, g2, g3⟩ := h4 j hj
    unfold rofVis rofG
    rw [g1]
    exact ⟨decide_eq_true rfl, g2, g3⟩
theorem fk_cols {k : IntKind} {n id : Nat} {V : Nat → Nat → Value} : ∀ {cs : List FK} (j0 : Nat), (∀ (j : Nat) c, cs[j]? = some c → ∀ i, i < n → FK.val w k c (V (j0 + j) i)) →
    ∃ cols, All2 (FK.col n id k (fun b => decide (b < w.heap.size)) (rofVis w k) (rofG w)) cs cols ∧ cols.length = cs.length ∧ ∀ (j : Nat) c, cols[j]? = some c → ∀ i, i < n → Col.rel c i (V (j0 + j) i)
  | [], _, _ => ⟨[], trivial, rfl, fun j c h => by simp at h⟩
  | c :: cs, j0, h => by
    obtain ⟨col, a1, a2⟩ := fk_col (n := n) (id := id) (V := V (j0 + 0)) (h 0 c rfl)
    obtain ⟨cols, b1, b2, b3⟩ := fk_cols (n := n) (id := id) (V := V) (cs := cs) (j0 + 1) (fun j c hj i hi => by
      have := h (j + 1) c (by simpa using hj) i hi
      rwa [show j0 + (j + 1) = j0 + 1 + j by omega] at this)
    refine ⟨col :: cols, ⟨a1, b1⟩, by simp [b2], fun j c hj i hi => ?_⟩
    cases j with
    | zero => simp at hj; subst hj; exact a2 i hi
    | succ j => rw [show j0 + (j + 1) = j0 + 1 + j by omega]; exact b3 j c (by simpa using hj) i hi
theorem fks_get {k : IntKind} : ∀ {ts : List TypeId} {cs : List FK}, fksOf P k ts = some cs → cs.length = ts.length ∧ ∀ (j : Nat) t, ts[j]? = some t → ∃ c, cs[j]? = some c ∧ fkOf P k t = some c
  | [], cs, h => by cases h; exact ⟨rfl, fun j t h => by simp at h⟩
  | t0 :: ts, cs, h => by
    unfold fksOf at h
    split at h
    · rename_i c cs' h1 h2
      cases h
      obtain ⟨a, b⟩ := fks_get h2
      refine ⟨by simp [a], fun j t hj => ?_⟩
      cases j with
      | zero => simp at hj; subst hj; exact ⟨c, rfl, h1⟩
      | succ j => simpa using b j t (by simpa using hj)
    · cases h
structure ListArgF (P : Program) (w : World) (e : TypeId) (k : IntKind) (cs : List FK) (id : Nat) (x : Value) (d : DataW H) : Prop where
  ex : ∃ n cols, All2 (FK.col n id k (fun b => decide (b < w.heap.size)) (rofVis w k) (rofG w)) cs cols ∧ (Ob.vec false e n cols).ok (fun _ => none) w (.val x) ∧ (∃ a m c, x = .slice a m c) ∧ (n = 0 ∨ ∃ elems rest, d = .slice elems rest ∧ elems.length = n)
theorem listF_arg {r : Reach} {base b2 : Nat} {sp : Nat → Bool} {held : Bool} {t e : TypeId} {bytes id : Nat} {kk : IntKind} {cs : List FK} {k : AK} (ht : P.underlying t = some (.slice e)) (hk : akListF P kk e = some k) (hke : k = .listF e bytes kk cs) {x : Value} {d : DataW H} {p : List MemPlace}
    (hx : Value.okWide P w r base t x) (h : DataW.Trod enc P w b2 sp held t x d p) (hz : ∀ n ∈ d.weights P t, n ≤ reachBytes) : ListArgF (H := H) P w e kk cs id x d := by
  obtain ⟨a0, len0, cap0, rfl⟩ := okWide_slice ht hx
  have hcell : Cell.okWide P w r base t (.slice a0 len0 cap0) := by
    unfold Value.okWide at hx; rw [ht] at hx; exact hx
  have hspot : ∀ a, a0 = some a → a.spot = none ∧ a.block < w.heap.size := by
    rintro a rfl
    unfold Cell.okWide at hcell
    rw [ht] at hcell
    simp only [Cell.ok, ht] at hcell
    obtain ⟨_, _, _, h2, row, cells, h3, _⟩ := hcell
    refine ⟨h2, ?_⟩
    have hne : w.heap[a.block]? ≠ none := by intro hn; simp [World.shape?, hn] at h3
    by_cases hl : a.block < w.heap.size
    · exact hl
    · exact absurd (Array.getElem?_eq_none (Nat.le_of_not_lt hl)) hne
  obtain ⟨fuel, hf⟩ := h
  have hcl : (Value.slice a0 len0 cap0).cells.toList = [.slice a0 len0 cap0] := rfl
  rw [hcl] at hf
  subst hke
  have fin : ∀ (W0 : Nat → Nat → Value), (∀ a, a0 = some a → ∀ i, i < len0 → ∀ j, j < cs.length → w.cell? (a.add (i * cs.length + j)) = some (W0 j i)) → (∀ (j : Nat) c, cs[j]? = some c → ∀ i, i < len0 → FK.val w kk c (W0 j i)) →
      (a0 = none → len0 = 0) → len0 ≤ cap0 → cap0 ≤ maxLen → (len0 = 0 ∨ ∃ elems rest, d = .slice elems rest ∧ elems.length = len0) → ListArgF (H := H) P w e kk cs id (.slice a0 len0 cap0) d := by
    intro W0 h1 h2 h3 h4 h5 h6
    obtain ⟨cols, c1, c2, c3⟩ := fk_cols (n := len0) (id := id) (V := W0) (cs := cs) 0 (fun j c hj i hi => by rw [Nat.zero_add]; exact h2 j c hj i hi)
    refine ⟨len0, cols, c1, ?_, ⟨_, _, _, rfl⟩, h6⟩
    have hm : len0 ≤ 9223372036854775807 := by unfold maxLen at h5; omega
    cases ha : a0 with
    | none =>
      have := h3 ha
      subst this
      exact ⟨hm, .inl ⟨cap0, rfl, rfl, fun h => by cases h⟩⟩
    | some a =>
      obtain ⟨s1, s2⟩ := hspot a ha
      obtain ⟨ab, ao, asp⟩ := a
      simp only at s1; subst s1
      refine ⟨hm, .inr ⟨ab, ao, cap0, rfl, s2, h4, fun i hi j c hj => ?_, fun h => by cases h⟩⟩
      have hjl : j < cs.length := by rw [← c2]; exact (List.getElem?_eq_some_iff.1 hj).1
      refine ⟨W0 j i, ?_, by have := c3 j c hj i hi; rwa [Nat.zero_add] at this⟩
      have := h1 _ ha i hi j hjl
      rw [addr_at] at this
      rw [c2, Nat.add_assoc]; exact this
  unfold akListF at hk
  split at hk
  · rename_i fs he
    split at hk
    · rename_i hc
      simp only [Bool.and_eq_true] at hc
      have hC := Nat.eq_of_beq_eq_true hc.2
      split at hk
      · rename_i cs' hcs
        cases hk
        obtain ⟨g1, g2⟩ := fks_get hcs
        have g1' : cs.length = fs.size := by rw [g1]; simp
        rcases open_slice ht hf with ⟨h0, hd⟩ | ⟨a, len, cap, m, n, D, Pl, hcs', hb, hl, hm, hmm, hx', hi⟩
        · cases h0
          exact fin (fun _ _ => default) (fun a h => by cases h) (fun j c _ i hi => by omega) (fun _ => rfl) (Nat.le_refl _) (by decide) (.inl rfl)
        · cases hcs'
          have hlm : len0 ≤ m := by rw [hmm]; split <;> omega
          refine fin (fun j i => (w.cell? (a.add (i * cs.length + j))).getD default) (fun a' ha i hi' j hj => ?_) (fun j c hj i hi' => ?_) (fun h => by cases h) hl hm (.inr ⟨_, _, by cases hx'; rfl, by simp⟩)
          · cases ha
            obtain ⟨cs', q1, q2⟩ := hi i (by omega)
            rw [hC] at q1
            obtain ⟨_, qcl, hat⟩ := World.cells?_some q1
            have := hat j (by omega)
            rw [Go.Deep.add_add] at this
            rw [g1', this]
            have : cs'[j]? = some (cs'[j]'(by omega)) := List.getElem?_eq_getElem (by omega)
            rw [this]; rfl
          · obtain ⟨cs', q1, q2⟩ := hi i (by omega)
            rw [hC] at q1
            obtain ⟨_, qcl, hat⟩ := World.cells?_some q1
            have hjl : j < fs.size := by rw [← g1']; exact (List.getElem?_eq_some_iff.1 hj).1
            have hcj := hat j hjl
            rw [Go.Deep.add_add] at hcj
            have hv : cs'[j]? = some (cs'[j]'(by omega)) := List.getElem?_eq_getElem (by omega)
            rw [hv] at hcj
            obtain ⟨ys, n', hn', hy, hlen, hyl, hff⟩ := DataW.trod_struct he q2
            have hfj : fs[j]? = some (fs[j]'hjl) := Array.getElem?_eq_getElem hjl
            obtain ⟨ho, hk2⟩ := hone_of hc.1 j _ hfj
            have h1 := hff j _ hfj
            rw [ho, hk2] at h1
            have hone' : (cs'.drop j).take 1 = [cs'[j]'(by omega)] := by
              rw [List.drop_eq_getElem_cons (by omega)]
              rfl
            rw [hone'] at h1
            have hys : ys[j]? = some (ys[j]'(by omega)) := List.getElem?_eq_getElem (by omega)
            obtain ⟨c', e1, e2⟩ := g2 j (fs[j]'hjl).type (by simp [hjl])
            rw [hj] at e1; cases e1
            simp only [g1', hcj, Option.getD_some]
            refine fk_trod e2 (h1.trans hys) (hspot _ rfl).2 fun q hq => hz q ?_
            have hD : D i = .agg (ys.map (·.1)) := by have := congrArg Prod.fst hy; exact this
            have hd : d = .slice ((List.range len0).map D) ((List.range (m - len0)).map fun j => D (len0 + j)) := congrArg Prod.fst hx'
            rw [hd]
            simp only [DataW.weights, ht, List.mem_cons, List.mem_append]
            refine .inr (.inl (mem_weightsAll (d := D i) (List.mem_map.2 ⟨i, List.mem_range.2 hi', rfl⟩) q ?_))
            rw [hD]
            simp only [DataW.weights, he]
            exact DataW.weights_mem_each (j := j) (t := (fs[j]'hjl).type) (d := (ys[j]'(by omega)).1) (by simp [hjl]) (by simp [hys]) q hq
      · cases hk
    · cases hk
  · cases hk
end

structure ArgsOk (P : Program) (w : World) (ks : List AK) (id : Nat) (xs : List Value) (vs : List V) (h : List Ob) (pl : List Pl) : Prop where
  sh : shapes ks id vs h
  len : pl.length = h.length
  rel : ∀ β : Bm, (∀ (i : Nat) (p : Pl), pl[i]? = some p → β (id + i) = some p) → All2 (V.rel β) vs xs
  ok : ∀ (β : Bm) (i : Nat) (o : Ob) (p : Pl), h[i]? = some o → pl[i]? = some p → o.ok β w p
  own : ∀ o ∈ h, o.own = false
theorem vec_any {β β' : Bm} {w : World} {own : Bool} {e : TypeId} {n : Nat} {cols : List Col} {p : Pl} (h : (Ob.vec own e n cols).ok β w p) : (Ob.vec own e n cols).ok β' w p := by
  cases p with
  | blk _ => exact h.elim
  | val x => exact h
theorem args_ok {P : Program} {w : World} {H : Type} {enc : TypeId × Value → H} {r : Reach} {base b2 : Nat} {sp : Nat → Bool} {held : Bool} : ∀ {ts : List TypeId} {ks : List AK}, aksOf P ts = some ks → ∀ (id : Nat) (xs : List Value) (ds : List (DataW H)) (ps : List MemPlace),
    (∀ (j : Nat) t v, ts[j]? = some t → xs[j]? = some v → Value.okWide P w r base t v) → DataW.TrodAll enc P w b2 sp held ts xs ds ps → (DataW.weightsEach P ts ds).all (· ≤ reachBytes) = true →
    ∃ vs h pl, ArgsOk P w ks id xs vs h pl
  | [], ks, hk, id, xs, ds, ps, _, hA, _ => by
    cases hk
    cases xs with
    | nil => exact ⟨[], [], [], ⟨rfl, rfl⟩, rfl, fun _ _ => trivial, fun β i o p h => by simp at h, fun o h => by cases h⟩
    | cons _ _ => cases ds <;> exact hA.elim
  | t :: ts, ks, hk, id, xs, ds, ps, hv, hA, hsz => by
    unfold aksOf at hk
    split at hk
    · rename_i k ks' h1 h2
      cases hk
      match xs, ds, hA with
      | x :: xs, d :: ds, hA =>
        obtain ⟨p, q, hp, hq, rfl⟩ := hA
        have hx := hv 0 t x rfl rfl
        have hsz2 : (DataW.weightsEach P ts ds).all (· ≤ reachBytes) = true := by
          simp only [DataW.weightsEach, List.all_append, Bool.and_eq_true] at hsz; exact hsz.2
        have rec' := fun id => args_ok h2 id xs ds q (fun j t v a b => hv (j + 1) t v (by simpa using a) (by simpa using b)) hq hsz2
        have one : ∀ v, (∀ vs h, shapes ks' id vs h → shapes (k :: ks') id (v :: vs) h) → (∀ β : Bm, v.rel β x) → ∃ vs h pl, ArgsOk P w (k :: ks') id (x :: xs) vs h pl := fun v hs hr => by
          obtain ⟨vs, h, pl, a⟩ := rec' id
          exact ⟨v :: vs, h, pl, hs _ _ a.sh, a.len, fun β hb => ⟨hr β, a.rel β hb⟩, a.ok, a.own⟩
        have agg : akAgg P t = some k → (∃ cs, x = .agg cs ∧ cs.size = P.cellsOf t ∧ Row.okWide P w r base t cs) → ∃ vs h pl, ArgsOk P w (k :: ks') id (x :: xs) vs h pl := by
          rintro hk ⟨cs, rfl, hs, tys, hts, _, hcell⟩
          unfold akAgg at hk
          rw [hts] at hk
          simp only at hk
          split at hk
          · rename_i hb
            have hb := Nat.eq_of_beq_eq_true hb
            split at hk
            · rename_i cks hcks
              cases hk
              obtain ⟨ls, g1, g2⟩ := ck_cells hcks cs.toList (by rw [← hb, ← hs]; simp) (fun i v hi => by
                have hi' : cs[i]? = some v := by simpa using hi
                obtain ⟨u, hu, hok⟩ := hcell i v hi'
                have hlt : i < tys.length := by rw [← hb, ← hs]; exact (Array.getElem?_eq_some_iff.1 hi').1
                rw [Nat.mod_eq_of_lt hlt] at hu
                exact ⟨u, hu, hok⟩)
              exact one (.val (.agg ls)) (fun vs h hh => ⟨ls, vs, rfl, g1, hh⟩) (fun β => ⟨cs, rfl, g2 β⟩)
            · cases hk
          · cases hk
        unfold akOf at h1
        have hx0 := hx
        unfold Value.okWide at hx
        split at h1
        · rename_i ht; rw [ht] at hx; exact agg h1 hx
        · rename_i ht; rw [ht] at hx; exact agg h1 hx
        · rename_i e ht
          have lst : (∃ bytes cs, k = .list e bytes cs ∧ bytes = P.bytesOf e ∧ ListArg (H := H) P w e bytes cs x d) → ∃ vs h pl, ArgsOk P w (k :: ks') id (x :: xs) vs h pl := by
            rintro ⟨bytes, cs, hke, hby, n, cols, c1, c2, ⟨a, m, c, rfl⟩, c3⟩
            obtain ⟨vs, h, pl, A⟩ := rec' (id + 1)
            have hsize : n * bytes ≤ 140737488351232 := by
              rcases c3 with rfl | ⟨elems, rest, hd, hl⟩
              · simp
              · have := sized_slice hsz (j := 0) (t := t) (e := e) (elems := elems) (spare := rest) rfl (by rw [← hd]; rfl) ht
                rw [hl, ← hby] at this
                have h3 : n * bytes ≤ (n + rest.length) * bytes := Nat.mul_le_mul_right _ (by omega)
                unfold reachBytes at this
                omega
            subst hke
            refine ⟨.val (.one (.vec id)) :: vs, .vec false e n cols :: h, .val (.slice a m c) :: pl, ⟨n, cols, vs, h, rfl, rfl, hsize, c1, A.sh⟩, by simp [A.len], fun β hb => ⟨?_, A.rel β (fun i p hi => ?_)⟩, fun β i o p ho hp => ?_, fun o ho => ?_⟩
            · have := hb 0 _ rfl
              exact ⟨this, a, m, c, rfl⟩
            · have := hb (i + 1) p (by simpa using hi)
              rwa [show id + (i + 1) = id + 1 + i by omega] at this
            · cases i with
              | zero => simp at ho hp; subst ho; subst hp; exact vec_any c2
              | succ i => exact A.ok β i o p (by simpa using ho) (by simpa using hp)
            · rcases List.mem_cons.1 ho with rfl | ho
              · rfl
              · exact A.own o ho
          split at h1
          · rename_i k0 hk0
            cases h1
            have h1 := hk0
            obtain ⟨bytes, cs, hke⟩ : ∃ bytes cs, k = .list e bytes cs := by
              have h1' := h1
              unfold akList at h1'
              split at h1' <;> (split at h1' <;> (try cases h1') <;> (split at h1' <;> cases h1'; exact ⟨_, _, rfl⟩))
            have hby : bytes = P.bytesOf e := by
              subst hke
              have h1' := h1
              unfold akList at h1'
              split at h1' <;> (split at h1' <;> (try cases h1') <;> (split at h1' <;> cases h1'; rfl))
            exact lst ⟨bytes, cs, hke, hby, list_arg ht h1 hke hx0 hp⟩
          · split at h1
            rotate_left
            · have h1 : akListN P e = some k := h1
              obtain ⟨bytes, cs, hke, hby⟩ : ∃ bytes cs, k = .list e bytes cs ∧ bytes = P.bytesOf e := by
                have h1' := h1
                unfold akListN at h1'
                split at h1'
                · cases h1'; exact ⟨_, _, rfl, rfl⟩
                · cases h1'
              exact lst ⟨bytes, cs, hke, hby, listN_arg ht h1 hke hx0 hp⟩
            rename_i kF hkF
            cases h1
            have h1 : akListF P .u8 e = some k := hkF
            obtain ⟨bytes, cs, hke⟩ : ∃ bytes cs, k = .listF e bytes .u8 cs := by
              have h1' := h1
              unfold akListF at h1'
              split at h1'
              · split at h1'
                · split at h1'
                  · cases h1'; exact ⟨_, _, rfl⟩
                  · cases h1'
                · cases h1'
              · cases h1'
            have hby : bytes = P.bytesOf e := by
              subst hke
              have h1' := h1
              unfold akListF at h1'
              split at h1'
              · split at h1'
                · split at h1'
                  · cases h1'; rfl
                  · cases h1'
                · cases h1'
              · cases h1'
            have hzd : ∀ n ∈ d.weights P t, n ≤ reachBytes := fun n hn => by
              have := List.all_eq_true.1 hsz n (by simp only [DataW.weightsEach, List.mem_append]; exact .inl hn)
              simpa using this
            obtain ⟨n, cols, c1, c2, ⟨a, m, c, rfl⟩, c3⟩ := listF_arg (id := id + 1) ht h1 hke hx0 hp hzd
            obtain ⟨vs, h, pl, A⟩ := rec' (id + 2)
            have hsize : n * bytes ≤ 140737488351232 := by
              rcases c3 with rfl | ⟨elems, rest, hd, hl⟩
              · simp
              · have := sized_slice hsz (j := 0) (t := t) (e := e) (elems := elems) (spare := rest) rfl (by rw [← hd]; rfl) ht
                rw [hl, ← hby] at this
                have h3 : n * bytes ≤ (n + rest.length) * bytes := Nat.mul_le_mul_right _ (by omega)
                unfold reachBytes at this
                omega
            subst hke
            refine ⟨.val (.one (.vec id)) :: vs, .vec false e n cols :: .rof .u8 (fun b => decide (b < w.heap.size)) (rofVis w .u8) (rofG w) :: h, .val (.slice a m c) :: .blk 0 :: pl, ⟨n, cols, _, _, _, vs, h, rfl, rfl, hsize, c1, A.sh⟩, by simp [A.len], fun β hb => ⟨?_, A.rel β (fun i p hi => ?_)⟩, fun β i o p ho hp => ?_, fun o ho => ?_⟩
            · have := hb 0 _ rfl
              exact ⟨this, a, m, c, rfl⟩
            · have := hb (i + 2) p (by simpa using hi)
              rwa [show id + (i + 2) = id + 2 + i by omega] at this
            · match i with
              | 0 => simp at ho hp; subst ho; subst hp; exact vec_any c2
              | 1 => simp at ho hp; subst ho; exact rof_ok β .u8 p
              | i + 2 => exact A.ok β i o p (by simpa using ho) (by simpa using hp)
            · rcases List.mem_cons.1 ho with rfl | ho
              · rfl
              · rcases List.mem_cons.1 ho with rfl | ho
                · rfl
                · exact A.own o ho
        · rename_i hn1 hn2 hn3
          have hx' : Cell.okWide P w r base t x := by
            split at hx
            · rename_i e; exact (hn1 _ e).elim
            · rename_i e; exact (hn2 _ _ e).elim
            · exact hx
          split at h1
          · rename_i c hc
            cases h1
            obtain ⟨l, g1, g2⟩ := ck_cell hc hx'
            exact one (.val (.one l)) (fun vs h hh => ⟨l, vs, rfl, g1, hh⟩) g2
          · cases h1
    · cases hk
def LawOk (c : Con) (g : Nat) (ks : List AK) : Prop := ∀ vs h, shapes ks g vs h → ∃ l, c.paths vs h = some l ∧ ∀ r ∈ l, holdsP r.need ∧ ∀ v objs, r.r.has v objs → v = .val (.one (.bool (.lit true)))
theorem law_calls {P : Program} {G : List (Nat × List L)} {c : Con} (hc : c.ok P G) {ks : List AK} (hlaw : LawOk c G.length ks) {ts : List TypeId} (hk : aksOf P ts = some ks) {H : Type} {enc : TypeId × Value → H} {r : Reach} {base b2 : Nat} {sp : Nat → Bool} {held : Bool} {W : World}
    {xs : List Value} {ds : List (DataW H)} {ps : List MemPlace} (hv : ∀ (j : Nat) t v, ts[j]? = some t → xs[j]? = some v → Value.okWide P W r base t v) (hA : DataW.TrodAll enc P W b2 sp held ts xs ds ps) (hsz : (DataW.weightsEach P ts ds).all (· ≤ reachBytes) = true)
    (hglob : ∀ (i : Nat) (g : Nat × List L), G[i]? = some g → g.1 < W.heap.size ∧ segsOk (fun _ => none) W g.1 0 [.cells g.2]) : Calls P c.f xs.toArray W fun e w' => e = .returned (.bool true) ∧ Below W.heap.size W w' := by
  obtain ⟨vs, h, pl, A⟩ := args_ok hk G.length xs ds ps hv hA hsz
  obtain ⟨l, h1, h2⟩ := hlaw vs h A.sh
  obtain ⟨rr, hr, _, hrun⟩ := hc vs h l h1
  obtain ⟨hneed, hval⟩ := h2 rr hr
  let β : Bm := fun i => if i < G.length then (G[i]?).map (fun g => .blk g.1) else pl[i - G.length]?
  have hβg : ∀ (i : Nat) (g : Nat × List L), G[i]? = some g → β i = some (.blk g.1) := fun i g hg => by
    show (if i < G.length then _ else _) = _
    rw [if_pos (List.getElem?_eq_some_iff.1 hg).1, hg]; rfl
  have hβp : ∀ i p, pl[i]? = some p → β (G.length + i) = some p := fun i p hp => by
    show (if G.length + i < G.length then _ else _) = _
    rw [if_neg (by omega), Nat.add_sub_cancel_left]; exact hp
  have hgl : (gm G).length = G.length := by simp [gm]
  have hmem : ∀ id o, (gm G ++ h)[id]? = some o → o.own = false ∧ ∃ p, β id = some p ∧ o.ok β W p := fun id o ho => by
    rcases Nat.lt_or_ge id G.length with hl | hl
    · rw [List.getElem?_append_left (by rw [hgl]; exact hl)] at ho
      simp only [gm, List.getElem?_map] at ho
      cases hg : G[id]? with
      | none => rw [hg] at ho; cases ho
      | some g =>
        rw [hg] at ho; cases ho
        obtain ⟨k1, k2⟩ := hglob id g hg
        exact ⟨rfl, _, hβg id g hg, k1, segsOk_same (fun _ _ h => by cases h) rfl k2, fun h => by cases h⟩
    · rw [List.getElem?_append_right (by rw [hgl]; exact hl), hgl] at ho
      have hlt : id - G.length < pl.length := by rw [A.len]; exact (List.getElem?_eq_some_iff.1 ho).1
      refine ⟨A.own o (List.mem_of_getElem? ho), pl[id - G.length], ?_, A.ok β _ o _ ho (List.getElem?_eq_getElem hlt)⟩
      have := hβp _ _ (List.getElem?_eq_getElem hlt)
      rwa [show G.length + (id - G.length) = id by omega] at this
  have hH : HeapOk β (gm G ++ h) W := by
    refine ⟨fun id o ho => (hmem id o ho).2, fun id p hp => ?_, fun i i' o o' p p' b hi hi' how => ?_⟩
    · have hp2 : (if id < G.length then (G[id]?).map (fun g => Pl.blk g.1) else pl[id - G.length]?) = some p := hp
      split at hp2
      · exact ⟨_, List.getElem?_eq_getElem (by simp [hgl]; omega)⟩
      · have := (List.getElem?_eq_some_iff.1 hp2).1
        exact ⟨_, List.getElem?_eq_getElem (by simp [hgl, ← A.len]; omega)⟩
    · rw [(hmem i o hi).1] at how; cases how
  have hG : GlobOk G β W := fun i g hg => ⟨hβg i g hg, hglob i g hg⟩
  refine ((hrun hneed).2 β xs W hH hG (A.rel β hβp)).mono ?_
  rintro e w' ⟨v0, objs, v, β', hhas, rfl, _, _, _, hv', hC⟩
  rw [hval v0 objs hhas] at hv'
  have : v = .bool true := hv'
  subst this
  refine ⟨rfl, hC.os, hC.tape, hC.output, hC.size, fun k hk => hC.block k hk ?_⟩
  rintro ⟨i, o, p, q1, q2, _⟩
  rw [(hmem i o q1).1] at q2; cases q2

theorem trodAll_stays {H : Type} {enc : TypeId × Value → H} {P : Program} (hl : laidOutB P = true) {W W' : World} (hb : Below W.heap.size W W') {sp : Nat → Bool} :
    ∀ {ts : List TypeId} {vs : List Value} {ds : List (DataW H)} {ps : List MemPlace}, (ts.all fun t => P.readableRec t && decide (t < P.types.size)) = true → DataW.TrodAll enc P W 0 (fun _ => true) true ts vs ds ps →
      (∀ p ∈ ps, p.block < W.heap.size) → (∀ p ∈ ps, sp p.block = true) → DataW.TrodAll enc P W' 0 sp true ts vs ds ps
  | [], [], [], _, _, h, _, _ => h
  | [], [], _ :: _, _, _, h, _, _ => h.elim
  | [], _ :: _, _, _, _, h, _, _ => h.elim
  | _ :: _, [], _, _, _, h, _, _ => h.elim
  | _ :: _, _ :: _, [], _, _, h, _, _ => h.elim
  | t :: ts, v :: vs, d :: ds, ps, ht, h, hlt, hs => by
    obtain ⟨p, q, h1, h2, rfl⟩ := h
    simp only [List.all_cons, Bool.and_eq_true, decide_eq_true_eq] at ht
    exact ⟨p, q, WideElems.Trod_stays hl ht.1.1 ht.1.2 h1 (fun x hx => hb.same (hlt x (by simp [hx]))) (fun x hx => hs x (by simp [hx])),
      trodAll_stays hl hb ht.2 h2 (fun x hx => hlt x (by simp [hx])) (fun x hx => hs x (by simp [hx])), rfl⟩

theorem post_true {H : Type} {enc : TypeId × Value → H} {P : Program} {f : Func} {s : ChangeSpec} {apart fresh handsOn again : Bool} (hl : laidOutB P = true) (hvars : s.vars = [])
    (hts : (f.params.toList.all fun t => P.readableRec t && decide (t < P.types.size)) = true) {tb : TypeId} (hrt : f.resultTypes = #[tb]) (hb : P.underlying tb = some .bool)
    {W W' : World} {args : Array Value} {ds gs : List (DataW H)} {before : List MemPlace} (hW : DataW.Whole enc P f.params.toList s.vars apart W args.toList ds gs before)
    (hfn : s.fn H (ds ++ gs) = { results := [.lit (.bool true)], args := ds }) (hbe : Below W.heap.size W W') : s.post enc P f apart fresh handsOn again W args (.bool true) W' := by
  have hW' := hW
  obtain ⟨p, q, hA, hV, rfl, hfz, hnd⟩ := hW
  rw [hvars] at hV
  obtain ⟨rfl, rfl⟩ := trodVars_none hV
  have hlt : ∀ x ∈ p, x.block < W.heap.size := fun x hx => by simpa using hW'.lt x (by simpa using hx)
  have hold : ∀ x ∈ p ++ [], (fun b => decide (b < W.heap.size)) x.block = true := fun x hx => by simpa using hW'.lt x hx
  have hres : ∀ (b : Nat) (sp : Nat → Bool) (hd : Bool), DataW.TrodAll enc P W' b sp hd f.resultTypes.toList ((Value.bool true).resultList f.resultTypes.size) (s.fn H (ds ++ [])).results [] := by
    intro b sp hd
    rw [hfn, hrt]
    exact trodAll_mk1 (shut_bool hb _)
  have hargs : ∀ sp : Nat → Bool, (∀ x ∈ p ++ [], sp x.block = true) → DataW.TrodAll enc P W' 0 sp true f.params.toList args.toList (s.fn H (ds ++ [])).args p := by
    intro sp hsp
    rw [hfn]
    exact trodAll_stays hl hbe hts hA hlt (fun x hx => hsp x (by simpa using hx))
  have hvar : ∀ sp : Nat → Bool, DataW.TrodVars enc P W' sp s.vars (s.fn H (ds ++ [])).vars [] := by
    intro sp
    rw [hfn, hvars]
    rfl
  refine ⟨ds, [], p ++ [], [], p, [], hW', hres _ _ _, hargs _ hold, hvar _, World.keptBut_mono (fun x hx => ⟨hx, ?_⟩) (hbe.frame (· ∈ p ++ [])), fun _ => ?_⟩
  · exact Or.inr (by simpa using hx)
  · refine ⟨ok_one hrt rfl (okWide_bool_mk hb _), [.lit (.bool true)] ++ ds, [], ([] ++ p) ++ [], ⟨[] ++ p, [], ?_, (by rw [hvars]; exact rfl), rfl, ?_, ?_⟩, ?_⟩
    · have h := trodAll_append (hargs (fun _ => true) (fun _ _ => rfl)) (hres 0 (fun _ => true) true)
      rw [hfn] at h
      exact h
    · intro b off hp
      have hx : MemPlace.cell b off ∈ p ++ [] := by simpa using hp
      rw [hbe.frozen (p := ⟨b, off, none⟩) (show b < W.heap.size from (hW'.lt _ hx : (MemPlace.cell b off).block < _))]
      exact hfz b off hx
    · intro ha
      simpa using hnd ha
    · intro x hx _
      simpa using hx

theorem trodAll_len {H : Type} {enc : TypeId × Value → H} {P : Program} {W : World} {base : Nat} {sp : Nat → Bool} {held : Bool} :
    ∀ {ts : List TypeId} {vs : List Value} {ds : List (DataW H)} {ps : List MemPlace}, DataW.TrodAll enc P W base sp held ts vs ds ps → vs.length = ts.length ∧ ds.length = ts.length
  | [], [], [], _, _ => ⟨rfl, rfl⟩
  | [], [], _ :: _, _, h => h.elim
  | [], _ :: _, _, _, h => h.elim
  | _ :: _, [], _, _, h => h.elim
  | _ :: _, _ :: _, [], _, h => h.elim
  | _ :: _, _ :: _, _ :: _, _, ⟨_, _, _, h, _⟩ => by simp [trodAll_len h]

theorem row_true {H : Type} {enc : TypeId × Value → H} {P : Program} {G : List (Nat × List L)} {c : Con} {fn : Func} {s : ChangeSpec} {ts : List TypeId} {ks : List AK} {tb : TypeId}
    (hc : c.ok P G) (hlaw : LawOk c G.length ks) (hk : aksOf P ts = some ks)
    (hpar : fn.params.toList = ts) (hl : laidOutB P = true) (hvars : s.vars = []) (hts : (ts.all fun t => P.readableRec t && decide (t < P.types.size)) = true)
    (hrt : fn.resultTypes = #[tb]) (hb : P.underlying tb = some .bool) (hfn : ∀ ds : List (DataW H), ds.length = ts.length → s.fn H ds = { results := [.lit (.bool true)], args := ds })
    {apart fresh handsOn again : Bool} {W : World} {base : Nat} {args : Array Value} {ds gs : List (DataW H)} {before : List MemPlace}
    (hval : ∀ (j : Nat) t v, fn.params[j]? = some t → args[j]? = some v → Value.okWide P W .any base t v) (hW : DataW.Whole enc P fn.params.toList s.vars apart W args.toList ds gs before)
    (hsz : (DataW.weightsEach P (fn.params.toList ++ s.plain.varTypes P) (ds ++ gs)).all (· ≤ reachBytes) = true)
    (hglob : ∀ (i : Nat) (g : Nat × List L), G[i]? = some g → g.1 < W.heap.size ∧ segsOk (fun _ => none) W g.1 0 [.cells g.2]) :
    Calls P c.f args W fun e W' => ∃ v, e = .returned v ∧ s.post enc P fn apart fresh handsOn again W args v W' := by
  have hW' := hW
  obtain ⟨p, q, hA, hV, rfl, hfz, hnd⟩ := hW
  rw [hvars] at hV
  obtain ⟨rfl, rfl⟩ := trodVars_none hV
  have hlen := trodAll_len hA
  have hsz2 : (DataW.weightsEach P ts ds).all (· ≤ reachBytes) = true := by
    have e : s.plain.varTypes P = [] := by unfold DataSpec.varTypes ChangeSpec.plain; rw [hvars]; rfl
    rw [e, List.append_nil, List.append_nil, hpar] at hsz
    exact hsz
  refine Calls.mono (law_calls hc hlaw hk (r := .any) (base := base) (xs := args.toList) (fun j t v h1 h2 => hval j t v (by rw [← hpar] at h1; simpa using h1) (by simpa using h2)) (by rw [← hpar]; exact hA) hsz2 hglob) ?_
  rintro e W' ⟨rfl, hbe⟩
  exact ⟨_, rfl, post_true hl hvars (by rw [hpar]; exact hts) hrt hb hW' (by rw [List.append_nil]; exact hfn ds (by rw [hlen.2, hpar])) hbe⟩
end Go.Proofs.YtpdijogpbnaplaaDoorHz
namespace Go.Proofs.YtpdijogpbnaplaaDoorHz
open Go Go.RowKit Go.Sort

def sortL (n : Nat) (g : Nat → Int) : List Int := ((List.range n).map g).mergeSort fun x y => decide (x ≤ y)
theorem sortL_len (n : Nat) (g : Nat → Int) : (sortL n g).length = n := by simp [sortL]
def sortCon (f : FuncId) (k : Nat) (e : TypeId) : Con := ⟨f, fun args h => match args, h with
  | [.val (.one (.vec i))], [.vec true e' n [.ints .i64 g]] => if Nat.beq i k && Nat.beq e e' then some [⟨none, some (n < 4611686018427387904), .det (.tup []) [.vec true e n [.ints .i64 fun i => (sortL n g).getD i 0]]⟩] else none
  | _, _ => none, false⟩
theorem sortCon_ok {P : Program} {G : List (Nat × List L)} {f : FuncId} {e : TypeId} (h0 : ∀ (p : Option Addr) (cap : Nat) (w : World), Calls P f #[.slice p 0 cap] w fun e w' => e = .returned (.tuple #[]) ∧ w' = w)
    (h1 : ∀ (blk off cap : Nat) (zs : List Int) (w : World), Holds (Value.int .i64) w blk off zs.toArray → blk < w.heap.size → zs.length < 4611686018427387904 →
      Calls P f #[.slice (some ⟨blk, off, none⟩) zs.length cap] w fun e w' => e = .returned (.tuple #[]) ∧ ∃ n os, w' = grow (putRow (Value.int .i64) (Sort.ahead w n) blk off (zs.mergeSort fun x y => decide (x ≤ y)).toArray) os) : (sortCon f G.length e).ok P G := by
  intro args h l hl
  unfold sortCon at hl
  simp only at hl
  split at hl
  · rename_i i e' n g
    split at hl
    · rename_i hc
      simp only [Bool.and_eq_true] at hc
      have := Nat.eq_of_beq_eq_true hc.1
      subst this
      have := Nat.eq_of_beq_eq_true hc.2
      subst this
      cases hl
      refine ⟨_, List.mem_singleton.2 rfl, trivial, fun hn => ⟨trivial, fun β xs w hH hg hx => ?_⟩⟩
      have hn : n < 4611686018427387904 := hn
      have hgl : (gm G).length = G.length := by simp [gm]
      match xs, hx with
      | [x], ⟨⟨hx1, hx2⟩, _⟩ =>
      obtain ⟨p, k1, k2⟩ := hH.mem G.length (.vec true e n [.ints .i64 g]) (by rw [List.getElem?_append_right (by omega)]; simp [hgl])
      rw [hx1] at k1; cases k1
      have hat : (gm G ++ [Ob.vec true e n [.ints .i64 g]])[G.length]? = some (.vec true e n [.ints .i64 g]) := by rw [List.getElem?_append_right (by omega)]; simp [hgl]
      have hfin : ∀ w', w.grownBy w' x.ownBlock → (Ob.vec true e n [.ints .i64 fun i => (sortL n g).getD i 0]).ok β w' (.val x) → CallPost G β (gm G ++ [.vec true e n [.ints .i64 g]]) w ⟨none, some (n < 4611686018427387904), .det (.tup []) [.vec true e n [.ints .i64 fun i => (sortL n g).getD i 0]]⟩ (.returned (.tuple #[])) w' := by
        intro w' hgr hok
        have hown : ∀ b, x.ownBlock = some b → owned β (gm G ++ [.vec true e n [.ints .i64 g]]) b := fun b hb => ⟨G.length, .vec true e n [.ints .i64 g], .val x, hat, rfl, hx1, (foot_own _ _ _ _ _ _).2 hb⟩
        have hidx : ∀ (id : Nat) (o : Ob), (gm G ++ [Ob.vec true e n [.ints .i64 fun i => (sortL n g).getD i 0]])[id]? = some o → (id < G.length ∧ (gm G ++ [Ob.vec true e n [.ints .i64 g]])[id]? = some o ∧ o.own = false ∧ o ≠ .gone) ∨ (id = G.length ∧ o = .vec true e n [.ints .i64 fun i => (sortL n g).getD i 0]) := by
          intro id o ho
          rcases Nat.lt_or_ge id G.length with hlt | hge
          · rw [List.getElem?_append_left (by omega)] at ho
            refine .inl ⟨hlt, by rw [List.getElem?_append_left (by omega)]; exact ho, ?_⟩
            simp only [gm, List.getElem?_map] at ho
            cases hg0 : G[id]? with
            | none => rw [hg0] at ho; cases ho
            | some q => rw [hg0] at ho; cases ho; exact ⟨rfl, fun e => by cases e⟩
          · rw [List.getElem?_append_right (by omega), hgl] at ho
            have : id - G.length = 0 := by
              have := (List.getElem?_eq_some_iff.1 ho).1
              simp at this; omega
            rw [this] at ho
            simp at ho
            exact .inr ⟨by omega, ho.symm⟩
        refine ⟨_, _, _, β, ⟨rfl, rfl⟩, rfl, Bm.le_refl β, ⟨fun id o ho => ?_, fun id q hq => ?_, fun i i' o o' q q' b ho ho' how hng hq hq' hf hf' => ?_⟩, fun i o q ho how hq b hb => ?_, ⟨#[], rfl, trivial⟩, ?_⟩
        · rcases hidx id o ho with ⟨hlt, ho2, how, hgn⟩ | ⟨rfl, rfl⟩
          · obtain ⟨q, q1, q2⟩ := hH.mem id o ho2
            refine ⟨q, q1, Ob.ok_same (Bm.le_refl β) hgr.size q2 fun b hb => hgr.block b ?_ fun e2 => ?_⟩
            · exact Ob.foot_lt q2 hgn b hb
            · have := hH.inj G.length id _ o (.val x) q b hat ho2 rfl hgn hx1 q1 ((foot_own _ _ _ _ _ _).2 e2.symm) hb
              omega
          · exact ⟨_, hx1, hok⟩
        · obtain ⟨o, ho⟩ := hH.dom id q hq
          have hlt := (List.getElem?_eq_some_iff.1 ho).1
          exact ⟨_, List.getElem?_eq_getElem (by simp at hlt ⊢; omega)⟩
        · rcases hidx i o ho with ⟨h1, _, h3, _⟩ | ⟨rfl, rfl⟩
          · rw [h3] at how; cases how
          · rcases hidx i' o' ho' with ⟨h1, h2, h3, _⟩ | ⟨rfl, rfl⟩
            · exact hH.inj G.length i' _ o' q q' b hat h2 rfl hng hq hq' hf hf'
            · rfl
        · rcases hidx i o ho with ⟨h1, _, h3, _⟩ | ⟨rfl, rfl⟩
          · rw [h3] at how; cases how
          · rw [hx1] at hq; cases hq
            exact .inr (hown b ((foot_own _ _ _ _ _ _).1 hb))
        · refine ⟨hgr.os, hgr.tape, hgr.output, hgr.size, Nat.le_refl _, fun k hk hF => hgr.block k hk fun e2 => hF (hown k e2.symm)⟩
      have hnil : n = 0 → Calls P f #[x] w (CallPost G β (gm G ++ [.vec true e n [.ints .i64 g]]) w ⟨none, some (n < 4611686018427387904), .det (.tup []) [.vec true e n [.ints .i64 fun i => (sortL n g).getD i 0]]⟩) := by
        intro h00
        subst h00
        obtain ⟨a, c, hxs⟩ := vec_shape k2
        subst hxs
        refine (h0 a c w).mono ?_
        rintro e2 w' ⟨rfl, rfl⟩
        refine hfin w' ⟨rfl, rfl, rfl, Nat.le_refl _, fun _ _ _ => rfl⟩ ?_
        obtain ⟨r0, r1⟩ := k2
        refine ⟨r0, ?_⟩
        rcases r1 with r1 | ⟨b, off, cap, r1, r2, r3, r4, r5⟩
        · exact .inl r1
        · exact .inr ⟨b, off, cap, r1, r2, r3, fun i hi => absurd hi (Nat.not_lt_zero i), r5⟩
      show Calls P f #[x] w _
      by_cases h00 : n = 0
      · exact hnil h00
      · obtain ⟨r0, r1⟩ := k2
        rcases r1 with ⟨c, _, h, _⟩ | ⟨b, off, cap, rfl, r2, r3, r4, r5⟩
        · exact absurd h h00
        · obtain ⟨rfl, r6, cs, r7, r8⟩ := r5 rfl
          have r8 : cs.size = cap * 1 := r8
          have hzl : ((List.range n).map g).length = n := by simp
          have ht : cs.toList.take ((List.range n).map g).length = ((List.range n).map g).map (Value.int .i64) := by
            apply List.ext_getElem?
            intro j
            rw [hzl]
            by_cases hj : j < n
            · obtain ⟨y, y1, y2⟩ := r4 j hj 0 _ rfl
              have y2 : y = .int .i64 (g j) := y2
              simp only [List.length_cons, List.length_nil, Nat.zero_add, Nat.mul_one, Nat.add_zero, World.cell?, r7] at y1
              rw [List.getElem?_take_of_lt hj, Array.getElem?_toList]
              simp only [Option.isSome_none, Bool.false_eq_true, if_false] at y1
              rw [y1, y2]
              simp [hj]
            · rw [List.getElem?_take_eq_none (by omega), List.getElem?_eq_none (by simp; omega)]
          have hcall := h1 b 0 cap ((List.range n).map g) w (holds_of_blockI r7 ht) r2 (by rw [hzl]; exact hn)
          rw [hzl] at hcall
          refine hcall.mono ?_
          rintro e2 w' ⟨rfl, m, os, rfl⟩
          refine hfin _ (grownBy_sortedI _) ?_
          have hO := ownsRow_sortedI (n := m) (os := os) (base := 0) (ss := (List.range n).map g) (ts := sortL n g) (by simp [sortL]) (Nat.zero_le _) r7 (by rw [hzl]; exact r3) (by simpa [maxLen] using r6) r8
          rw [hzl] at hO
          refine owns_vec hO r0 (fun j hj q c hc => ?_)
          have hq : q = 0 := by
            have := (List.getElem?_eq_some_iff.1 hc).1
            simp at this; exact this
          subst hq
          cases hc
          refine ⟨.int .i64 ((sortL n g).getD j 0), ?_, rfl⟩
          have hjl : j < (sortL n g).length := by rw [sortL_len]; exact hj
          simp [List.getD_eq_getElem?_getD, List.getElem?_eq_getElem hjl]
    · cases hl
  · cases hl
end Go.Proofs.YtpdijogpbnaplaaDoorHz
namespace Go.Proofs.YtpdijogpbnaplaaDoorHz
open Go Go.RowKit Go.ChangeShapes

mutual
def flatD : DataW Unit → Option (List L)
  | .lit (.bool b) => some [.bool (.lit b)]
  | .lit (.int k n) => some [.int k (.lit n)]
  | .agg ps => flatDs ps
  | _ => none
def flatDs : List (DataW Unit) → Option (List L)
  | [] => some []
  | d :: r => match flatD d with
    | none => none
    | some a => match flatDs r with
      | none => none
      | some b => some (a ++ b)
end
theorem all2_drop_take {α β : Type} {R : α → β → Prop} {l : List α} {m : List β} {k : Nat} {l' : List α} (h1 : All2 R l (m.take k)) (h2 : All2 R l' (m.drop k)) : All2 R (l ++ l') m := by
  have := All2.append h1 h2
  rwa [List.take_append_drop] at this

def rowFs (P : Program) (go : TypeId → Bool) : List Field → Nat → Nat → Bool
  | [], off, all => Nat.beq off all
  | f :: r, off, all => Nat.beq f.offset off && go f.type && rowFs P go r (off + P.cellsOf f.type) all
noncomputable def rowTy (P : Program) : Nat → TypeId → Bool
  | 0, _ => false
  | n + 1, t => match P.underlying t with
    | some .bool => true
    | some (.int _) => true
    | some (.array m e) => Nat.beq (P.cellsOf t) (m * P.cellsOf e) && rowTy P n e
    | some (.struct fs) => rowFs P (rowTy P n) fs.toList 0 (P.cellsOf t)
    | _ => false

section
variable {P : Program} {w : World} {base : Nat} {spare : Nat → Bool} {held : Bool} {β : Bm}
theorem flat_arr {fuel : Nat} {e : TypeId} (ih : ∀ cs (x : DataW Unit × List MemPlace) ls, DataW.trod (fun _ => ()) P w base spare held fuel e cs = some x → flatD x.1 = some ls → All2 (L.rel β) ls cs) (c : Nat) :
    ∀ (m : Nat) (i : Nat) (cs : List Value) (xs : List (DataW Unit × List MemPlace)) (ls : List L), cs.length = (i + m) * c →
      ((List.range' i m).mapM fun i => DataW.trod (fun _ => ()) P w base spare held fuel e ((cs.drop (i * c)).take c)) = some xs → flatDs (xs.map (·.1)) = some ls → All2 (L.rel β) ls (cs.drop (i * c))
  | 0, i, cs, xs, ls, hl, hm, hf => by
    simp at hm
    subst hm
    simp [flatDs] at hf
    subst hf
    rw [List.drop_of_length_le (by rw [hl]; simp)]
    trivial
  | m + 1, i, cs, xs, ls, hl, hm, hf => by
    rw [List.range'_succ] at hm
    simp only [List.mapM_cons, Option.bind_eq_bind, Option.pure_def, Option.bind_eq_some_iff] at hm
    obtain ⟨x, hx, ys, hys, hxs⟩ := hm
    cases hxs
    simp only [List.map_cons, flatDs] at hf
    split at hf
    · cases hf
    · rename_i a ha
      split at hf
      · cases hf
      · rename_i b hb
        cases hf
        have h1 := ih _ _ _ hx ha
        have h2 := flat_arr ih c m (i + 1) cs ys b (by rw [hl]; congr 1; omega) hys hb
        refine all2_drop_take h1 ?_
        rw [List.drop_drop]
        rwa [show i * c + c = (i + 1) * c by rw [Nat.succ_mul]]
theorem flat_fs {fuel n : Nat} (ih : ∀ t, rowTy P n t = true → ∀ cs (x : DataW Unit × List MemPlace) ls, DataW.trod (fun _ => ()) P w base spare held fuel t cs = some x → flatD x.1 = some ls → All2 (L.rel β) ls cs) :
    ∀ (fs : List Field) (off : Nat) (cs : List Value) (xs : List (DataW Unit × List MemPlace)) (ls : List L), rowFs P (rowTy P n) fs off cs.length = true →
      (fs.mapM fun f => DataW.trod (fun _ => ()) P w base spare held fuel f.type ((cs.drop f.offset).take (P.cellsOf f.type))) = some xs → flatDs (xs.map (·.1)) = some ls → All2 (L.rel β) ls (cs.drop off)
  | [], off, cs, xs, ls, hr, hm, hf => by
    simp at hm
    subst hm
    simp [flatDs] at hf
    subst hf
    simp only [rowFs] at hr
    have := Nat.eq_of_beq_eq_true hr
    rw [List.drop_of_length_le (by omega)]
    trivial
  | f :: fs, off, cs, xs, ls, hr, hm, hf => by
    simp only [rowFs, Bool.and_eq_true] at hr
    obtain ⟨⟨h1, h2⟩, h3⟩ := hr
    have h1 := Nat.eq_of_beq_eq_true h1
    simp only [List.mapM_cons, Option.bind_eq_bind, Option.pure_def, Option.bind_eq_some_iff] at hm
    obtain ⟨x, hx, ys, hys, hxs⟩ := hm
    cases hxs
    simp only [List.map_cons, flatDs] at hf
    split at hf
    · cases hf
    · rename_i a ha
      split at hf
      · cases hf
      · rename_i b hb
        cases hf
        have g1 := ih _ h2 _ _ _ hx ha
        have g2 := flat_fs ih fs (off + P.cellsOf f.type) cs ys b h3 hys hb
        rw [h1] at g1
        refine all2_drop_take g1 ?_
        rwa [List.drop_drop]
theorem flat_trod : ∀ (fuel n : Nat) (t : TypeId), rowTy P n t = true → ∀ cs (x : DataW Unit × List MemPlace) ls, DataW.trod (fun _ => ()) P w base spare held fuel t cs = some x → flatD x.1 = some ls → All2 (L.rel β) ls cs
  | 0, _, _, _, _, _, _, h, _ => by simp [DataW.trod] at h
  | _ + 1, 0, _, hr, _, _, _, _, _ => by simp [rowTy] at hr
  | fuel + 1, n + 1, t, hr, cs, x, ls, h, hf => by
    unfold rowTy at hr
    split at hr
    · rename_i ht
      obtain ⟨b, rfl, rfl⟩ := DataW.trod_bool ht h
      simp [flatD] at hf
      subst hf
      exact ⟨rfl, trivial⟩
    · rename_i k ht
      obtain ⟨q, rfl, rfl, _⟩ := DataW.trod_int ht h
      simp [flatD] at hf
      subst hf
      exact ⟨rfl, trivial⟩
    · rename_i m e ht
      simp only [Bool.and_eq_true] at hr
      have hc := Nat.eq_of_beq_eq_true hr.1
      unfold DataW.trod at h
      simp only [ht] at h
      split at h
      · rename_i hlen
        simp only [Option.map_eq_some_iff] at h
        obtain ⟨xs, hxs, rfl⟩ := h
        simp only [flatD] at hf
        rw [List.range_eq_range'] at hxs
        have := flat_arr (β := β) (fun cs x ls => flat_trod fuel n e hr.2 cs x ls) (P.cellsOf e) m 0 cs xs ls (by rw [hlen, hc]; simp) hxs hf
        simpa using this
      · cases h
    · rename_i fs ht
      unfold DataW.trod at h
      simp only [ht] at h
      split at h
      · rename_i hlen
        simp only [Option.map_eq_some_iff] at h
        obtain ⟨xs, hxs, rfl⟩ := h
        simp only [flatD] at hf
        rw [← hlen] at hr
        have := flat_fs (β := β) (fun t ht cs x ls => flat_trod fuel n t ht cs x ls) fs.toList 0 cs xs ls hr hxs hf
        simpa using this
      · cases h
    · cases hr
end

noncomputable def tables (P : Program) : List (String × DataW Unit) → Option (List (Nat × List L))
  | [] => some []
  | (s, d) :: r => match P.globalNamed s with
    | none => none
    | some g => match (P.globals[g]?).map (·.type) with
      | none => none
      | some t => if rowTy P 20 t then (match flatD d with
        | none => none
        | some ls => match tables P r with
          | none => none
          | some G => some ((g, ls) :: G)) else none
theorem all2_get {α β : Type} {R : α → β → Prop} : ∀ {l : List α} {m : List β}, All2 R l m → ∀ (j : Nat) (a : α), l[j]? = some a → ∃ b, m[j]? = some b ∧ R a b
  | a0 :: l, b0 :: m, ⟨h1, h2⟩, j, a, hj => by
    cases j with
    | zero => simp at hj; subst hj; exact ⟨b0, rfl, h1⟩
    | succ j => simpa using all2_get h2 j a (by simpa using hj)
  | [], _, _, j, a, hj => by simp at hj
  | _ :: _, [], h, _, _, _ => h.elim
theorem tables_ok {P : Program} {w : World} : ∀ {laid : List (String × DataW Unit)} {G : List (Nat × List L)} {ps : List MemPlace}, tables P laid = some G → DataW.LaidVars P w laid ps →
    ∀ (i : Nat) (g : Nat × List L), G[i]? = some g → g.1 < w.heap.size ∧ segsOk (fun _ => none) w g.1 0 [.cells g.2]
  | [], G, _, h, _ => by cases h; intro i g hg; simp at hg
  | (s, d) :: r, G, ps, h, hl => by
    obtain ⟨g, t, cs, fuel, p, q, h1, h2, h3, h4, h5, _⟩ := hl
    unfold tables at h
    rw [h1] at h
    simp only [h2] at h
    split at h
    · rename_i ht
      split at h
      · cases h
      · rename_i ls hls
        split at h
        · cases h
        · rename_i G' hG'
          cases h
          have ih := tables_ok hG' h5
          have hrel := flat_trod (β := fun _ => none) fuel 20 t ht cs.toList (d, p) ls h4 hls
          intro i x hx
          cases i with
          | zero =>
            simp at hx
            subst hx
            refine ⟨?_, ⟨fun j l hj => ?_, trivial⟩⟩
            · unfold World.var? at h3
              rw [h1] at h3
              simp only [Option.bind_some] at h3
              cases hh : w.heap[g]? with
              | none => rw [hh] at h3; cases h3
              | some o => exact (Array.getElem?_eq_some_iff.1 hh).1
            · obtain ⟨v, hv, hr⟩ := all2_get hrel j l hj
              exact ⟨v, by rw [Nat.zero_add, World.var?_cell h1 h3 j]; simpa using hv, hr⟩
          | succ i => exact ih i x (by simpa using hx)
    · cases h
theorem globOk_laid {P : Program} {w : World} {laid : List (String × DataW Unit)} {G : List (Nat × List L)} (h : tables P laid = some G) (hp : (laid.all fun x => x.2.handleName?.isNone) = true) (hl : laidMetH P laid w) :
    ∀ (i : Nat) (g : Nat × List L), G[i]? = some g → g.1 < w.heap.size ∧ segsOk (fun _ => none) w g.1 0 [.cells g.2] := by
  rw [MakeChecks.laidMetH_plain _ _ _ hp] at hl
  obtain ⟨ps, h1, _⟩ := hl
  exact tables_ok h h1
end Go.Proofs.YtpdijogpbnaplaaDoorHz
