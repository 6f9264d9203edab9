/- The engine, second half: a symbolic evaluator of the model's code, and that what it tells holds of every call. It is about no program. -/
import Derived.Test.YtachmoamlalimaaDoorSxOne
import Derived.Below
import Derived.LoopN
namespace Go.Proofs.YtachmoamlalimaaDoorSx
open Go Go.RowKit

structure Blk where
  cells : List L
  own : Bool
abbrev S := SS V (Option Blk)

/-- what the engine knows of a function: symbols, the globals that it names, the frame's size -/
structure Cx where
  E : Env
  G : List (Nat × List L)
  n : Nat
/-- what it knows of one run: where its own blocks begin, the world at its begin -/
structure Dx where
  B : Nat
  w0 : World

/-- what the engine's numbers of its own blocks stand for never turns -/
def CellsOk (E : Env) (β : Bm) (w : World) (b : Nat) (cs : List L) : Prop := ∀ j l, cs[j]? = some l → ∃ x, w.cell? ⟨b, j, none⟩ = some x ∧ l.rel E β x

structure RepB (X : Cx) (D : Dx) (β : Bm) (s : S) (a : Act) (w : World) : Prop where
  size : a.tmps.size = X.n
  tmps : ∀ t, (s.tmp t).rel X.E β (a.tmps.getD t undef)
  defers : a.defers = []
  mem : ∀ id blk, s.blk id = some blk → ∃ b, β id = some b ∧ b < w.heap.size ∧ (blk.own = true → D.B ≤ b ∧ ∀ j, w.frozen? ⟨b, j, none⟩ = false) ∧ CellsOk X.E β w b blk.cells
  dom : ∀ id b, β id = some b → ∃ blk, s.blk id = some blk
  inj : ∀ id id' b, β id = some b → β id' = some b → id = id'
  glob : ∀ i g, X.G[i]? = some g → β i = some g.1 ∧ g.1 < D.B ∧ CellsOk X.E (fun _ => none) w g.1 g.2
  base : D.B ≤ w.heap.size
def Rep (X : Cx) (D : Dx) (s : S) (a : Act) (w : World) : Prop := Below D.B D.w0 w ∧ ∃ β, RepB X D β s a w

def undefV : V := .val (.one (.cst undef))
theorem undefV_ok (E : Env) (β : Bm) : undefV.rel E β undef := rfl

/-! ### how states move -/
def wrT (t : Option Tmp) (v : V) : Option (Nat × V) := match t with
  | some d => some (d, v)
  | none => none
theorem RepB.put {X : Cx} {D : Dx} {β : Bm} {s : S} {a : Act} {w : World} (h : RepB X D β s a w) {d : Option Tmp} (hd : ∀ t, d = some t → t < X.n) {v : V} {x : Value} (hv : v.rel X.E β x) :
    RepB X D β ⟨upd s.tmp (wrT d v), s.blk⟩ (a.put d x) w := by
  cases d with
  | none => exact h
  | some t =>
    have ht := hd t rfl
    refine { h with size := by simp [Act.put, h.size], tmps := fun u => ?_, defers := by simp [Act.put, h.defers] }
    simp only [upd, wrT, Act.put]
    split
    · rename_i e; subst e
      have : u < a.tmps.size := by rw [h.size]; exact ht
      simpa [Array.getD, this] using hv
    · rename_i e
      have := h.tmps u
      have e2 : (a.tmps.setIfInBounds t x).getD u undef = a.tmps.getD u undef := by
        simp [Array.getD_eq_getD_getElem?, Array.getElem?_setIfInBounds_ne (Ne.symm e)]
      rw [e2]; exact this
theorem Rep.put {X : Cx} {D : Dx} {s : S} {a : Act} {w : World} (h : Rep X D s a w) {d : Option Tmp} (hd : ∀ t, d = some t → t < X.n) {v : V} {x : Value} (hv : ∀ β, RepB X D β s a w → v.rel X.E β x) :
    Rep X D ⟨upd s.tmp (wrT d v), s.blk⟩ (a.put d x) w := by
  obtain ⟨h1, β, h2⟩ := h
  exact ⟨h1, β, h2.put hd (hv β h2)⟩

/-- the old blocks stand still: whatever is only made anew -/
theorem RepB.below {X : Cx} {D : Dx} {β : Bm} {s : S} {a : Act} {w w' : World} (h : RepB X D β s a w) (hb : Below w.heap.size w w') : RepB X D β s a w' := by
  refine { h with mem := fun id blk hs => ?_, base := Nat.le_trans h.base hb.size, glob := fun i g hg => ?_ }
  case refine_2 =>
    obtain ⟨h1, h2, h3⟩ := h.glob i g hg
    refine ⟨h1, h2, fun j l hl => ?_⟩
    obtain ⟨x, hx, hr⟩ := h3 j l hl
    exact ⟨x, by rw [hb.cell (p := ⟨g.1, j, none⟩) (Nat.lt_of_lt_of_le h2 h.base)]; exact hx, hr⟩
  obtain ⟨b, h1, h2, h3, h4⟩ := h.mem id blk hs
  refine ⟨b, h1, Nat.lt_of_lt_of_le h2 hb.size, fun ho => ⟨(h3 ho).1, fun j => ?_⟩, fun j l hl => ?_⟩
  · rw [hb.frozen (p := ⟨b, j, none⟩) h2]; exact (h3 ho).2 j
  · obtain ⟨x, hx, hr⟩ := h4 j l hl
    exact ⟨x, by rw [hb.cell (p := ⟨b, j, none⟩) h2]; exact hx, hr⟩
theorem Rep.below {X : Cx} {D : Dx} {s : S} {a : Act} {w w' : World} (h : Rep X D s a w) (hb : Below w.heap.size w w') : Rep X D s a w' := by
  obtain ⟨h1, β, h2⟩ := h
  exact ⟨h1.trans (hb.mono h2.base), β, h2.below hb⟩
theorem Rep.drew {X : Cx} {D : Dx} {s : S} {a : Act} {w : World} (h : Rep X D s a w) : Rep X D s a { w with drawn := w.drawn + 1 } := h.below (Below.refl _ _).drew

theorem Bm.le_refl (β : Bm) : β.le β := fun _ _ h => h
theorem CellsOk.mono {E : Env} {β β' : Bm} (h : β.le β') {w : World} {b : Nat} {cs : List L} (hc : CellsOk E β w b cs) : CellsOk E β' w b cs :=
  fun j l hl => let ⟨x, hx, hr⟩ := hc j l hl; ⟨x, hx, L.rel_mono h l x hr⟩

theorem Rep.alloc {X : Cx} {D : Dx} {s : S} {a : Act} {w : World} (h : Rep X D s a w) {id : Nat} (hid : s.blk id = none) {d : Option Tmp} (hd : ∀ t, d = some t → t < X.n) {cells : List L} {cs : List Value} {ty : TypeId}
    (hc : ∀ β, RepB X D β s a w → All2 (L.rel X.E β) cells cs) :
    Rep X D ⟨upd s.tmp (wrT d (.val (.one (.ptr id 0)))), upd s.blk (some (id, some ⟨cells, true⟩))⟩ (a.put d (.pointer (some ⟨w.heap.size, 0, none⟩))) (w.alloc (.cells cs.toArray ty)) := by
  obtain ⟨h1, β, h2⟩ := h
  have hcs := hc β h2
  refine ⟨h1.alloc h2.base _, ?_⟩
  let β' : Bm := fun i => if i = id then some w.heap.size else β i
  have hβid : β id = none := by
    cases hb : β id with
    | none => rfl
    | some b => obtain ⟨blk, hbk⟩ := h2.dom id b hb; rw [hid] at hbk; cases hbk
  have hle : β.le β' := by
    intro i b hb
    have : i ≠ id := fun e => by rw [e, hβid] at hb; cases hb
    simp [β', this, hb]
  have hbel : Below w.heap.size w (w.alloc (.cells cs.toArray ty)) := (Below.refl _ _).alloc (Nat.le_refl _) _
  have h3 := h2.below hbel
  refine ⟨β', ?_⟩
  have h4 : RepB X D β' ⟨s.tmp, upd s.blk (some (id, some ⟨cells, true⟩))⟩ a (w.alloc (.cells cs.toArray ty)) := by
    refine ⟨h3.size, fun t => V.rel_mono hle _ _ (h3.tmps t), h3.defers, fun i blk hs => ?_, fun i b hb => ?_, fun i i' b hb hb' => ?_, fun i g hg => ⟨hle _ _ (h3.glob i g hg).1, (h3.glob i g hg).2⟩, h3.base⟩
    · simp only [upd] at hs
      split at hs
      · rename_i e; subst e; cases hs
        refine ⟨w.heap.size, by simp [β'], by simp, fun _ => ⟨h2.base, fun j => by simp⟩, fun j l hl => ?_⟩
        obtain ⟨x, hx, hr⟩ := hcs.get j l hl
        exact ⟨x, by simpa using hx, L.rel_mono hle _ _ hr⟩
      · obtain ⟨b, k1, k2, k3, k4⟩ := h3.mem i blk hs
        exact ⟨b, hle _ _ k1, k2, k3, k4.mono hle⟩
    · simp only [upd]
      split
      · exact ⟨_, rfl⟩
      · rename_i e
        simp only [β', if_neg e] at hb
        exact h3.dom i b hb
    · have lt : ∀ i b, β i = some b → b < w.heap.size := fun i b hb => by
        obtain ⟨blk, hbk⟩ := h2.dom i b hb
        obtain ⟨b', k1, k2, _⟩ := h2.mem i blk hbk
        rw [hb] at k1; cases k1; exact k2
      simp only [β'] at hb hb'
      split at hb <;> split at hb'
      · rename_i e1 e2; rw [e1, e2]
      · cases hb; have := lt _ _ hb'; omega
      · cases hb'; have := lt _ _ hb; omega
      · exact h3.inj i i' b hb hb'
  exact h4.put hd ⟨w.heap.size, by simp [β'], rfl⟩

theorem RepB.cell_lt {X : Cx} {D : Dx} {β : Bm} {s : S} {a : Act} {w : World} (_h : RepB X D β s a w) {b j : Nat} {x : Value} (hx : w.cell? ⟨b, j, none⟩ = some x) : b < w.heap.size := World.block_lt_of_cell? w ⟨b, j, none⟩ hx

/-- one cell is stored -/
theorem RepB.store1 {X : Cx} {D : Dx} {β : Bm} {s : S} {a : Act} {w : World} (h : RepB X D β s a w) {id b : Nat} {blk : Blk} (hs : s.blk id = some blk) (hb : β id = some b)
    (hB : D.B ≤ b) {off : Nat} (hoff : off < blk.cells.length) {l : L} {x : Value} (hr : l.rel X.E β x) :
    RepB X D β ⟨s.tmp, upd s.blk (some (id, some ⟨blk.cells.set off l, blk.own⟩))⟩ a (w.setCell ⟨b, off, none⟩ x) := by
  refine ⟨h.size, h.tmps, h.defers, fun i blk' hi => ?_, fun i b' hb' => ?_, h.inj, fun i g hg => ?_, by simpa using h.base⟩
  case refine_3 =>
    obtain ⟨h1, h2, h3⟩ := h.glob i g hg
    refine ⟨h1, h2, fun j m hm => ?_⟩
    obtain ⟨u, hu, hru⟩ := h3 j m hm
    exact ⟨u, by rw [World.cell?_setCell_other w _ _ _ (fun e3 => by cases e3; omega)]; exact hu, hru⟩
  · simp only [upd] at hi
    split at hi
    · rename_i e; subst e; cases hi
      obtain ⟨b1, k1, k2, k3, k4⟩ := h.mem i blk hs
      rw [hb] at k1; cases k1
      refine ⟨b, hb, by simpa using k2, fun ho => ⟨(k3 ho).1, fun j => by rw [World.frozen?_setCell]; exact (k3 ho).2 j⟩, fun j m hm => ?_⟩
      simp only [List.getElem?_set] at hm
      split at hm
      · rename_i e; subst e
        cases hm
        obtain ⟨m0, hm0⟩ : ∃ m0, blk.cells[off]? = some m0 := ⟨_, List.getElem?_eq_getElem hoff⟩
        obtain ⟨u, hu, _⟩ := k4 off m0 hm0
        exact ⟨x, World.cell?_setCell_same w ⟨b, off, none⟩ x hu, hr⟩
      · rename_i e
        obtain ⟨u, hu, hru⟩ := k4 j m hm
        exact ⟨u, by rw [World.cell?_setCell_other w _ _ _ (by simp)]; exact hu, hru⟩
    · rename_i e
      obtain ⟨b1, k1, k2, k3, k4⟩ := h.mem i blk' hi
      have hne : b1 ≠ b := fun e2 => e (h.inj i id b (by rw [← e2]; exact k1) hb)
      refine ⟨b1, k1, by simpa using k2, fun ho => ⟨(k3 ho).1, fun j => by rw [World.frozen?_setCell]; exact (k3 ho).2 j⟩, fun j m hm => ?_⟩
      obtain ⟨u, hu, hru⟩ := k4 j m hm
      exact ⟨u, by rw [World.cell?_setCell_other w _ _ _ (fun e3 => hne (by cases e3; rfl))]; exact hu, hru⟩
  · simp only [upd]
    split
    · exact ⟨_, rfl⟩
    · exact h.dom i b' hb'

theorem storeCells_ok {P : Program} {X : Cx} {D : Dx} {β : Bm} {a : Act} {id b : Nat} (hb : β id = some b) (off : Nat) : ∀ (ls : List L) (vs : List Value) (i : Nat) (s : S) (w : World) (blk : Blk),
    All2 (L.rel X.E β) ls vs → (∀ v ∈ vs, v.oneCell' = true) → RepB X D β s a w → Below D.B D.w0 w → s.blk id = some blk → blk.own = true → off + i + ls.length ≤ blk.cells.length →
    ∃ w', (storeCells ⟨b, off, none⟩ vs i).run P w = .ok () w' ∧ Below D.B D.w0 w' ∧ RepB X D β ⟨s.tmp, upd s.blk (some (id, some ⟨setRun (off + i) ls blk.cells, true⟩))⟩ a w'
  | [], [], i, s, w, blk, _, _, h, hw, hs, ho, _ => by
    refine ⟨w, rfl, hw, ?_⟩
    have : upd s.blk (some (id, some ⟨setRun (off + i) [] blk.cells, true⟩)) = s.blk := by
      funext j; simp only [upd, setRun]; split
      · rename_i e; subst e; rw [hs]; cases blk; simp only at ho; rw [ho]
      · rfl
    rw [this]; exact h
  | l :: ls, v :: vs, i, s, w, blk, hr, hone, h, hw, hs, ho, hlen => by
    simp only [List.length_cons] at hlen
    obtain ⟨b1, k1, k2, k3, k4⟩ := h.mem id blk hs
    rw [hb] at k1; cases k1
    have hoff : off + i < blk.cells.length := by omega
    obtain ⟨u, hu, _⟩ := k4 (off + i) _ (List.getElem?_eq_getElem hoff)
    have hadd : (⟨b, off, none⟩ : Addr).add i = ⟨b, off + i, none⟩ := by unfold Addr.add; split <;> simp_all
    have hstep := h.store1 (l := l) (x := v) hs hb (k3 ho).1 hoff hr.1
    have hw2 := hw.setCell (p := ⟨b, off + i, none⟩) (k3 ho).1 v
    obtain ⟨w', r1, r2, r3⟩ := storeCells_ok hb off ls vs (i + 1) _ _ ⟨blk.cells.set (off + i) l, blk.own⟩ hr.2 (fun v hv => hone v (by simp [hv])) hstep hw2 (by simp [upd]) ho (by simp; omega)
    refine ⟨w', ?_, r2, ?_⟩
    · unfold storeCells
      simp only [Sem.run_bind, hadd]
      rw [run_store P w _ v _ (hone v (by simp))]
      rw [hu]
      simp only [(k3 ho).2 (off + i), Bool.false_eq_true, if_false, Result.andThen_ok]
      exact r1
    · have e : upd (upd s.blk (some (id, some ⟨blk.cells.set (off + i) l, blk.own⟩))) (some (id, some ⟨setRun (off + (i + 1)) ls (blk.cells.set (off + i) l), true⟩)) = upd s.blk (some (id, some ⟨setRun (off + i) (l :: ls) blk.cells, true⟩)) := by
        funext j; simp only [upd, setRun]; split
        · rfl
        · rfl
      simp only at r3
      rw [e] at r3
      exact r3
  | [], _ :: _, _, _, _, _, h, _, _, _, _, _, _ => h.elim
  | _ :: _, [], _, _, _, _, h, _, _, _, _, _, _ => h.elim

theorem loadCells_ok {P : Program} {E : Env} {β : Bm} {w : World} {b : Nat} {cs : List L} (hc : CellsOk E β w b cs) (off : Nat) : ∀ (n i : Nat) (acc : Array Value) (accL : List L),
    off + i + n ≤ cs.length → All2 (L.rel E β) accL acc.toList → ∃ vs : Array Value, (loadCellsFrom ⟨b, off, none⟩ i n acc).run P w = .ok vs w ∧ All2 (L.rel E β) (accL ++ (cs.drop (off + i)).take n) vs.toList
  | 0, i, acc, accL, _, h => ⟨acc, rfl, by simpa using h⟩
  | n + 1, i, acc, accL, hlen, h => by
    have hlt : off + i < cs.length := by omega
    obtain ⟨x, hx, hr⟩ := hc (off + i) _ (List.getElem?_eq_getElem hlt)
    have hadd : (⟨b, off, none⟩ : Addr).add i = ⟨b, off + i, none⟩ := by unfold Addr.add; split <;> simp_all
    obtain ⟨vs, r1, r2⟩ := loadCells_ok (P := P) hc off n (i + 1) (acc.push x) (accL ++ [cs[off + i]]) (by omega) (by
      rw [Array.toList_push]; exact h.append ⟨hr, trivial⟩)
    refine ⟨vs, ?_, ?_⟩
    · unfold loadCellsFrom
      simp only [Sem.run_bind, hadd, run_load, hx, Result.andThen_ok]
      exact r1
    · rw [List.append_assoc] at r2
      have e : (cs.drop (off + i)).take (n + 1) = [cs[off + i]] ++ (cs.drop (off + (i + 1))).take n := by
        rw [List.drop_eq_getElem_cons hlt, List.take_succ_cons]
        simp [Nat.add_assoc]
      rw [e]; exact r2
end Go.Proofs.YtachmoamlalimaaDoorSx
namespace Go.Proofs.YtachmoamlalimaaDoorSx
open Go Go.RowKit

inductive Req where
  | vals (l : List (Ex × V))
  | load (id off n : Nat) (agg : Bool)
  | alloc (cells : List L)
  | store (id off : Nat) (cells : List L)
  | call (f : FuncId) (args : List V)

def asW : V → Option W
  | .val w => some w
  | _ => none
def asPtr : V → Option (Nat × Nat)
  | .val (.one (.ptr id off)) => some (id, off)
  | _ => none
def asBoolE : V → Option Ex
  | .val (.one (.bool e)) => some e
  | _ => none
def asIntE : V → Option (IntKind × Ex)
  | .val (.one (.int k e)) => some (k, e)
  | _ => none
def asAggL : V → Option (List L)
  | .val (.agg ls) => some ls
  | _ => none
def asFn : V → Option FuncId
  | .val (.one (.cst (.func (.func f) a b))) => if a.size = 0 ∧ b.size = 0 then some f else none
  | _ => none
theorem asW_eq {v : V} {w : W} (h : asW v = some w) : v = .val w := by unfold asW at h; split at h <;> cases h; rfl
theorem asPtr_eq {v : V} {p : Nat × Nat} (h : asPtr v = some p) : v = .val (.one (.ptr p.1 p.2)) := by unfold asPtr at h; split at h <;> cases h; rfl
theorem asBoolE_eq {v : V} {e : Ex} (h : asBoolE v = some e) : v = .val (.one (.bool e)) := by unfold asBoolE at h; split at h <;> cases h; rfl
theorem asIntE_eq {v : V} {p : IntKind × Ex} (h : asIntE v = some p) : v = .val (.one (.int p.1 p.2)) := by unfold asIntE at h; split at h <;> cases h; rfl
theorem asAggL_eq {v : V} {ls : List L} (h : asAggL v = some ls) : v = .val (.agg ls) := by unfold asAggL at h; split at h <;> cases h; rfl
theorem asFn_eq {v : V} {f : FuncId} (h : asFn v = some f) : v = .val (.one (.cst (.func (.func f) #[] #[]))) := by
  unfold asFn at h; split at h
  · split at h
    · rename_i hs; cases h; rw [Array.eq_empty_of_size_eq_zero hs.1, Array.eq_empty_of_size_eq_zero hs.2]
    · cases h
  · cases h

def lone1 (v : V) : Req := .vals [(.lit 1, v)]
def allW : List V → Option (List W)
  | [] => some []
  | v :: vs => match asW v, allW vs with
    | some w, some ws => some (w :: ws)
    | _, _ => none
/-- a number that is not known, but lies in a short range: one case for each -/
def caseList (e : Ex) (f : Int → Option V) : Nat → Int → Option (List (Ex × V))
  | 0, _ => some []
  | n + 1, i => match f i, caseList e f n (i + 1) with
    | some v, some r => some ((.eq e (.lit i), v) :: r)
    | _, _ => none
def atIndex (pc : Pc) (e : Ex) (len : Nat) (f : Int → Option V) : Option Req :=
  match asLit e with
  | some i => if 0 ≤ i ∧ i < len then (match f i with | some v => some (lone1 v) | none => none) else none
  | none => match iv pc.rng e with
    | some p => if 0 ≤ p.1 ∧ p.2 < len ∧ p.1 ≤ p.2 then (match caseList e f (p.2 - p.1 + 1).toNat p.1 with | some l => some (.vals l) | none => none) else none
    | none => none

def request (P : Program) (pc : Pc) (op : Op) (args : List V) : Option Req :=
  match op with
  | .move _ | .assign _ => (match args with | [v] => some (lone1 v) | _ => none)
  | .pick _ _ _ => (match args with
    | [c, a, b] => (match asBoolE c with
      | some e => (match truth pc e with
        | some true => some (lone1 a)
        | some false => some (lone1 b)
        | none => some (.vals [(e, a), (.not e, b)]))
      | none => none)
    | _ => none)
  | .alloc t => (match zeroW P t with | some w => some (.alloc w.cells) | none => none)
  | .box _ _ => (match args with
    | [v] => (match asW v with | some w => if w.firm then some (.alloc w.cells) else none | none => none)
    | _ => none)
  | .build t parts => (match allW args with
    | some ws => if Nat.beq ws.length parts.toList.length then (match buildW P t ((parts.toList.map (·.1)).zip ws) with | some ls => some (lone1 (.val (.agg ls))) | none => none) else none
    | none => none)
  | .load t _ => (match args with
    | [p] => (match asPtr p, tyAgg P t, tySize P t with
      | some q, some true, some n => some (.load q.1 q.2 n true)
      | some q, some false, some _ => some (.load q.1 q.2 1 false)
      | _, _, _ => none)
    | _ => none)
  | .store t _ _ => (match args with
    | [p, v] => (match asPtr p, asW v, tySize P t with
      | some q, some w, some n => if w.firm && Nat.beq w.cells.length n then some (.store q.1 q.2 w.cells) else none
      | _, _, _ => none)
    | _ => none)
  | .nilCheck _ => (match args with
    | [v] => (match asPtr v with | some _ => some (lone1 v) | none => none)
    | _ => none)
  | .binOp op t _ _ _ => (match args with
    | [x, y] => (match asW x, asW y with
      | some a, some b => (match binV P pc op t a b with | some l => some (lone1 (.val (.one l))) | none => none)
      | _, _ => none)
    | _ => none)
  | .unOp op _ _ => (match args with
    | [x] => (match op with
      | .not => (match asBoolE x with | some e => some (lone1 (.val (.one (.bool (mkNot e))))) | none => none)
      | .neg => (match asIntE x with | some q => some (lone1 (.val (.one (.int q.1 (mkWrap pc.rng q.1 (mkSub (.lit 0) q.2)))))) | none => none)
      | .xor => (match asIntE x with | some q => some (lone1 (.val (.one (.int q.1 (mkBits pc.rng .xor q.1 (.lit (if q.1.signed then -1 else q.1.max)) q.2))))) | none => none)
      | _ => none)
    | _ => none)
  | .convert s d _ => (match args with
    | [x] => (match asIntE x, P.underlying s, P.underlying d with
      | some q, some _, some (.int k) => some (lone1 (.val (.one (.int k (mkWrap pc.rng k q.2)))))
      | _, _, _ => none)
    | _ => none)
  | .fieldAddr t _ f => (match args with
    | [p] => (match asPtr p, P.underlying t with
      | some q, some (.struct fs) => (match fs[f]? with
        | some g => (match tySize P g.type with
          | some n => if n = 0 then none else some (lone1 (.val (.one (.ptr q.1 (q.2 + g.offset)))))
          | none => none)
        | none => none)
      | _, _ => none)
    | _ => none)
  | .field t _ f => (match args with
    | [x] => (match asAggL x, P.underlying t with
      | some ls, some (.struct fs) => (match fs[f]? with
        | some g => (match partW P g.type ls g.offset with | some w => some (lone1 (.val w)) | none => none)
        | none => none)
      | _, _ => none)
    | _ => none)
  | .indexAddr t _ _ => (match args with
    | [p, i] => (match asPtr p, asIntE i, P.underlying t with
      | some q, some ke, some (.array len el) => (match tySize P el with
        | some n => atIndex pc ke.2 len (fun j => some (.val (.one (.ptr q.1 (q.2 + j.toNat * n)))))
        | none => none)
      | _, _, _ => none)
    | _ => none)
  | .index t _ _ => (match args with
    | [x, i] => (match asAggL x, asIntE i, P.underlying t with
      | some ls, some ke, some (.array len el) => (match tySize P el with
        | some n => atIndex pc ke.2 len (fun j => (partW P el ls (j.toNat * n)).map .val)
        | none => none)
      | _, _, _ => none)
    | _ => none)
  | .extract _ i => (match args with
    | [.tup ws] => (match ws[i]? with | some w => some (lone1 (.val w)) | none => none)
    | _ => none)
  | .call c => (match c.callee, args with
    | .value _, fv :: as => (match asFn fv with
      | some f => (match P.funcs[f]? with
        | some fn => if (fn.name == "runtime.NumGoroutine") || fn.body.isNone then none else some (.call f as)
        | none => none)
      | none => none)
    | _, _ => none)
  | _ => none

/-- what a request promises of the operation itself -/
def ReqOk (P : Program) (E : Env) (β : Bm) (m : Sem Next) : Req → Prop
  | .vals l => (∃ p ∈ l, tr (den E.i p.1) = true) ∧ ∀ p ∈ l, tr (den E.i p.1) = true → ∃ x, p.2.rel E β x ∧ ∀ w, m.run P w = .ok (.value x) w
  | .load id off n agg => ∃ b, β id = some b ∧ (agg = false → n = 1) ∧ ∀ w cs, CellsOk E β w b cs → off + n ≤ cs.length →
      ∃ x, (if agg then W.agg ((cs.drop off).take n) else W.one (cs.getD off .junk)).rel E β x ∧ m.run P w = .ok (.value x) w
  | .alloc cells => ∃ cs ty, All2 (L.rel E β) cells cs ∧ ∀ w : World, m.run P w = .ok (.value (.pointer (some ⟨w.heap.size, 0, none⟩))) (w.alloc (.cells cs.toArray ty))
  | .store id off cells => ∃ b cs, β id = some b ∧ All2 (L.rel E β) cells cs ∧ (∀ v ∈ cs, v.oneCell' = true) ∧ ∀ w w', (storeCells ⟨b, off, none⟩ cs 0).run P w = .ok () w' → m.run P w = .ok .skip w'
  | .call f args => ∃ xs : List Value, All2 (V.rel E β) args xs ∧ ∀ w, m.run P w = .ok (.enter f xs.toArray) w

theorem lone1_ok {P : Program} {E : Env} {β : Bm} {m : Sem Next} {v : V} {x : Value} (hx : v.rel E β x) (hm : ∀ w, m.run P w = .ok (.value x) w) : ReqOk P E β m (lone1 v) :=
  ⟨⟨_, List.mem_singleton.2 rfl, rfl⟩, fun p hp _ => by rw [List.mem_singleton.1 hp]; exact ⟨x, hx, hm⟩⟩
theorem caseList_ok {e : Ex} {f : Int → Option V} : ∀ (n : Nat) (i : Int) (l : List (Ex × V)), caseList e f n i = some l →
    (∀ p ∈ l, ∃ j, p.1 = .eq e (.lit j) ∧ i ≤ j ∧ j < i + n ∧ f j = some p.2) ∧ ∀ j, i ≤ j → j < i + n → ∃ p ∈ l, p.1 = .eq e (.lit j)
  | 0, i, l, h => by simp [caseList] at h; subst h; exact ⟨fun p hp => (by cases hp), fun j h1 h2 => (by simp at h2; omega)⟩
  | n + 1, i, l, h => by
    unfold caseList at h
    split at h
    · rename_i v r h1 h2
      cases h
      obtain ⟨a, b⟩ := caseList_ok n (i + 1) r h2
      refine ⟨fun p hp => ?_, fun j hj1 hj2 => ?_⟩
      · rcases List.mem_cons.1 hp with rfl | hp
        · exact ⟨i, rfl, Int.le_refl _, by omega, h1⟩
        · obtain ⟨j, k1, k2, k3, k4⟩ := a p hp
          exact ⟨j, k1, by omega, by omega, k4⟩
      · by_cases e0 : j = i
        · subst e0; exact ⟨_, List.mem_cons_self, rfl⟩
        · obtain ⟨p, hp, hpe⟩ := b j (by omega) (by omega)
          exact ⟨p, List.mem_cons_of_mem _ hp, hpe⟩
    · cases h
theorem atIndex_ok {P : Program} {E : Env} {β : Bm} {pc : Pc} (hp : PcOk E.i pc) {e : Ex} {len : Nat} {f : Int → Option V} {q : Req} (h : atIndex pc e len f = some q) {m : Sem Next}
    (hm : 0 ≤ den E.i e → den E.i e < len → ∀ v, f (den E.i e) = some v → ∃ x, v.rel E β x ∧ ∀ w, m.run P w = .ok (.value x) w) : ReqOk P E β m q := by
  unfold atIndex at h
  split at h
  · rename_i i hi
    have := asLit_eq hi
    subst this
    split at h
    · rename_i hb
      split at h
      · rename_i v hv; cases h
        obtain ⟨x, hx, hw⟩ := hm hb.1 hb.2 v hv
        exact lone1_ok hx hw
      · cases h
    · cases h
  · split at h
    · rename_i p hpv
      have hb := iv_ok hp.rng _ _ hpv
      split at h
      · rename_i hc
        split at h
        · rename_i l hl
          cases h
          obtain ⟨a, b⟩ := caseList_ok _ _ _ hl
          refine ⟨?_, fun r hr htr => ?_⟩
          · obtain ⟨r, hr, hre⟩ := b (den E.i e) hb.1 (by omega)
            exact ⟨r, hr, by rw [hre, tr_eq]; simp [den]⟩
          · obtain ⟨j, k1, k2, k3, k4⟩ := a r hr
            rw [k1, tr_eq] at htr
            replace htr : den E.i e = j := of_decide_eq_true htr
            rw [← htr] at k4 k2 k3
            exact hm (by omega) (by omega) _ k4
        · cases h
      · cases h
    · cases h

theorem atIndex_some {E : Env} {pc : Pc} (hp : PcOk E.i pc) {e : Ex} {len : Nat} {f : Int → Option V} {l : List (Ex × V)} (h : atIndex pc e len f = some (.vals l)) : ∃ p ∈ l, tr (den E.i p.1) = true := by
  unfold atIndex at h
  split at h
  · split at h
    · split at h
      · cases h; exact ⟨_, List.mem_singleton.2 rfl, rfl⟩
      · cases h
    · cases h
  · split at h
    · rename_i p hpv
      have hb := iv_ok hp.rng _ _ hpv
      split at h
      · split at h
        · rename_i l' hl
          cases h
          obtain ⟨r, hr, hre⟩ := (caseList_ok _ _ _ hl).2 (den E.i e) hb.1 (by omega)
          exact ⟨r, hr, by rw [hre, tr_eq]; simp [den]⟩
        · cases h
      · cases h
    · cases h
theorem request_some {P : Program} {E : Env} {pc : Pc} (hp : PcOk E.i pc) {op : Op} {args : List V} {l : List (Ex × V)} (h : request P pc op args = some (.vals l)) : ∃ p ∈ l, tr (den E.i p.1) = true := by
  have lone : ∀ {v : V} {l : List (Ex × V)}, lone1 v = .vals l → ∃ p ∈ l, tr (den E.i p.1) = true := fun h => by cases h; exact ⟨_, List.mem_singleton.2 rfl, rfl⟩
  cases op <;> simp only [request] at h <;> (try (cases h; done))
  case pick c a b =>
    split at h
    · split at h
      · rename_i e he
        split at h
        · exact lone (Option.some.inj h)
        · exact lone (Option.some.inj h)
        · cases h
          cases ht : tr (den E.i e)
          · exact ⟨_, List.mem_cons_of_mem _ List.mem_cons_self, by rw [tr_not, ht]; rfl⟩
          · exact ⟨_, List.mem_cons_self, ht⟩
      · cases h
    · cases h
  case indexAddr t x i =>
    split at h
    · split at h
      · split at h
        · exact atIndex_some hp h
        · cases h
      · cases h
    · cases h
  case index t x i =>
    split at h
    · split at h
      · split at h
        · exact atIndex_some hp h
        · cases h
      · cases h
    · cases h
  all_goals (repeat' (split at h))
  all_goals first | (cases h; done) | exact lone (Option.some.inj h)

theorem addr_add (b off n : Nat) : (⟨b, off, none⟩ : Addr).add n = ⟨b, off + n, none⟩ := by unfold Addr.add; split <;> simp_all

theorem allW_ok {E : Env} {β : Bm} : ∀ {vs : List V} {ws : List W}, allW vs = some ws → ∀ {xs : List Value}, All2 (V.rel E β) vs xs → All2 (W.rel E β) ws xs
  | [], ws, h, [], _ => by simp [allW] at h; subst h; trivial
  | v :: vs, ws, h, x :: xs, hr => by
    unfold allW at h
    split at h
    · rename_i w ws' h1 h2
      cases h
      have := asW_eq h1
      subst this
      exact ⟨hr.1, allW_ok h2 hr.2⟩
    · cases h
  | [], _, _, _ :: _, h => h.elim
  | _ :: _, _, _, [], h => h.elim
theorem zip_ok {E : Env} {β : Bm} : ∀ {ws : List W} {xs : List Value} (is : List Nat), All2 (W.rel E β) ws xs → is.length = ws.length → All2 (fun (p : Nat × W) (q : Nat × Value) => p.1 = q.1 ∧ W.rel E β p.2 q.2) (is.zip ws) (is.zip xs)
  | [], [], is, _, _ => by cases is <;> trivial
  | w :: ws, x :: xs, i :: is, h, hl => ⟨⟨rfl, h.1⟩, zip_ok is h.2 (by simpa using hl)⟩
  | _ :: _, _ :: _, [], _, hl => by simp at hl
  | [], _ :: _, _, h, _ => h.elim
  | _ :: _, [], _, h, _ => h.elim

theorem request_ok {P : Program} {E : Env} {β : Bm} {pc : Pc} (hp : PcOk E.i pc) {o : Oper} {ρ : Operand → Value} {args : List V} {q : Req}
    (h : request P pc o.op args = some q) (ha : All2 (V.rel E β) args (o.op.operands.toList.map ρ)) : ReqOk P E β (execOp ρ o) q := by
  obtain ⟨dst, op, type, pos, after, guard⟩ := o
  simp only at h ha
  cases op <;> simp only [request] at h <;> (try (cases h; done)) <;> simp only [Op.operands, List.map_cons, List.map_nil] at ha
  case move x =>
    split at h
    · cases h; exact lone1_ok ha.1 (fun w => rfl)
    · cases h
  case assign x =>
    split at h
    · cases h; exact lone1_ok ha.1 (fun w => rfl)
    · cases h
  case pick c a b =>
    split at h
    · rename_i vc va vb
      split at h
      · rename_i e he
        have := asBoolE_eq he
        subst this
        obtain ⟨h1, h2, h3, _⟩ := ha
        have hc : ρ c = .bool (tr (den E.i e)) := h1
        have run : ∀ w, (execOp ρ ⟨dst, .pick c a b, type, pos, after, guard⟩).run P w = .ok (.value (if tr (den E.i e) then ρ a else ρ b)) w := by
          intro w; simp only [execOp, hc, asBool]; rfl
        split at h
        · rename_i ht; cases h
          have := truth_ok hp _ _ ht
          exact lone1_ok h2 (fun w => by rw [run, this]; rfl)
        · rename_i ht; cases h
          have := truth_ok hp _ _ ht
          exact lone1_ok h3 (fun w => by rw [run, this]; rfl)
        · cases h
          refine ⟨?_, fun p hpm htr => ?_⟩
          · cases ht : tr (den E.i e)
            · exact ⟨(.not e, vb), by simp, by rw [tr_not, ht]; rfl⟩
            · exact ⟨(e, va), by simp, ht⟩
          · simp only [List.mem_cons, List.not_mem_nil, or_false] at hpm
            rcases hpm with rfl | rfl
            · exact ⟨_, h2, fun w => by rw [run, htr]; rfl⟩
            · rw [tr_not] at htr
              exact ⟨_, h3, fun w => by rw [run]; simp at htr; rw [htr]; rfl⟩
      · cases h
    · cases h
  case alloc t =>
    split at h
    · rename_i w hw
      cases h
      obtain ⟨hf, v, hv, hr⟩ := zeroW_ok hw E β
      refine ⟨v.cells.toList, t, W.firm_cells hv hf, fun w => ?_⟩
      simp only [execOp, Instr.alloc, Sem.run_bind, hr, Result.andThen_ok, newVar, newRow, run_newObj, Sem.run_pure]
      simp
    · cases h
  case box t x =>
    split at h
    · rename_i v
      split at h
      · rename_i w hw
        have := asW_eq hw
        subst this
        split at h
        · rename_i hf
          cases h
          refine ⟨(ρ x).cells.toList, t, W.firm_cells ha.1 hf, fun w => ?_⟩
          simp only [execOp, Instr.box, Sem.run_bind, Result.andThen_ok, newVar, newRow, run_newObj, Sem.run_pure]
          simp
        · cases h
      · cases h
    · cases h
  case build t parts =>
    split at h
    · rename_i ws hws
      split at h
      · rename_i hlen
        split at h
        · rename_i ls hls
          cases h
          have h1 := allW_ok hws ha
          have e : parts.toList.map (fun p => (p.1, ρ p.2)) = (parts.toList.map (·.1)).zip ((parts.toList.map (·.2)).map ρ) := by
            rw [List.map_map, List.zip_map']; rfl
          have h2 := zip_ok (parts.toList.map (·.1)) (by simpa using h1) (by rw [List.length_map]; exact (Nat.eq_of_beq_eq_true hlen).symm)
          obtain ⟨es, he, hr⟩ := buildW_ok (vs := (parts.toList.map (·.1)).zip ((parts.toList.map (·.2)).map ρ)) hls (by simpa using h2)
          refine lone1_ok (x := .agg es) ⟨es, rfl, he⟩ (fun w => ?_)
          have e2 : (parts.map fun (i, x) => (i, ρ x)) = ((parts.toList.map (·.1)).zip ((parts.toList.map (·.2)).map ρ)).toArray := by
            rw [← e]
            apply Array.ext'
            simp
          simp only [execOp, e2, Sem.run_bind, hr, Result.andThen_ok]
          rfl
        · cases h
      · cases h
    · cases h
  case load t x =>
    split at h
    · rename_i v
      split at h
      · rename_i p n hp' hag hsz
        have := asPtr_eq hp'
        subst this
        cases h
        obtain ⟨b, hb, hx⟩ := ha.1
        refine ⟨b, hb, (fun h => by cases h), fun w cs hc hlen => ?_⟩
        obtain ⟨vs, r1, r2⟩ := loadCells_ok (P := P) hc p.2 n 0 #[] [] (by simpa using hlen) trivial
        refine ⟨.agg vs, ⟨vs, rfl, by simpa using r2⟩, ?_⟩
        simp only [execOp, Instr.loadAt, hx, Instr.sureAddr, loadVar, loadCells, Sem.run_bind, Sem.run_pure, tyAgg_ok hag, tySize_ok hsz, Result.andThen_ok, if_true, r1]
      · rename_i p n hp' hag hsz
        have := asPtr_eq hp'
        subst this
        cases h
        obtain ⟨b, hb, hx⟩ := ha.1
        refine ⟨b, hb, fun _ => rfl, fun w cs hc hlen => ?_⟩
        have hlt : p.2 < cs.length := by omega
        obtain ⟨y, hy, hr⟩ := hc p.2 _ (List.getElem?_eq_getElem hlt)
        refine ⟨y, ?_, ?_⟩
        · simp only [Bool.false_eq_true, if_false, List.getD_eq_getElem?_getD, List.getElem?_eq_getElem hlt, Option.getD_some]
          exact hr
        · simp only [execOp, Instr.loadAt, hx, Instr.sureAddr, loadVar, Sem.run_bind, Sem.run_pure, tyAgg_ok hag, Result.andThen_ok, Bool.false_eq_true, if_false, run_load, hy]
      · cases h
    · cases h
  case store t x y =>
    split at h
    · rename_i vp vx
      split at h
      · rename_i p w n hp' hw hsz
        have := asPtr_eq hp'
        subst this
        have := asW_eq hw
        subst this
        split at h
        · rename_i hc
          simp only [Bool.and_eq_true] at hc
          cases h
          obtain ⟨⟨b, hb, hx⟩, hy, _⟩ := ha
          have hcells := W.firm_cells hy hc.1
          refine ⟨b, (ρ y).cells.toList, hb, hcells, ?_, fun wd wd' hrun => ?_⟩
          · have key : ∀ (ls : List L) (vs : List Value), All2 (L.rel E β) ls vs → ls.all L.firm = true → ∀ v ∈ vs, v.oneCell' = true := by
              intro ls
              induction ls with
              | nil => intro vs h _ v hv; cases vs with | nil => cases hv | cons _ _ => exact h.elim
              | cons l ls ih =>
                intro vs h hf v hv
                cases vs with
                | nil => exact h.elim
                | cons u us =>
                  simp only [List.all_cons, Bool.and_eq_true] at hf
                  rcases List.mem_cons.1 hv with rfl | hv
                  · exact L.firm_ok h.1 hf.1
                  · exact ih us h.2 hf.2 v hv
            refine key _ _ hcells ?_
            have := hc.1
            cases w with
            | one l => simpa [W.cells, W.firm] using this
            | agg ls => exact this
          · have hl := hcells.length
            have hn := Nat.eq_of_beq_eq_true hc.2
            have hsize : ¬ ((ρ y).cells.size ≠ n) := by simp only [Array.length_toList] at hl; omega
            simp only [execOp, Instr.storeAt, hx, Instr.sureAddr, storeVar, Sem.run_bind, Sem.run_pure, tySize_ok hsz, Result.andThen_ok, if_neg hsize, hrun]
        · cases h
      · cases h
    · cases h
  case nilCheck x =>
    split at h
    · rename_i v
      split at h
      · rename_i p hp'
        have := asPtr_eq hp'
        subst this
        cases h
        obtain ⟨b, hb, hx⟩ := ha.1
        exact lone1_ok ha.1 (fun w => by simp only [execOp, hx]; rfl)
      · cases h
    · cases h
  case binOp op t x y yt =>
    split at h
    · rename_i vx vy
      split at h
      · rename_i a b h1 h2
        have := asW_eq h1
        subst this
        have := asW_eq h2
        subst this
        split at h
        · rename_i l hl
          cases h
          obtain ⟨z, hz, hw⟩ := binV_ok hp hl ha.1 ha.2.1 x y
          refine lone1_ok (x := z) hz (fun w => ?_)
          have := hw w
          simp only [execOp]
          rw [Sem.run_bind, this]
          rfl
        · cases h
      · cases h
    · cases h
  case unOp op t x =>
    split at h
    · rename_i v
      split at h
      · split at h
        · rename_i e he
          have := asBoolE_eq he
          subst this
          cases h
          have hx : ρ x = .bool (tr (den E.i e)) := ha.1
          exact lone1_ok (x := .bool (!tr (den E.i e))) (by simp only [V.rel, W.rel, L.rel, mkNot_ok]) (fun w => by simp only [execOp, hx, Op.unary]; rfl)
        · cases h
      · split at h
        · rename_i p he
          have := asIntE_eq he
          subst this
          cases h
          have hx : ρ x = .int p.1 (den E.i p.2) := ha.1
          exact lone1_ok (x := .int p.1 (p.1.wrap (0 - den E.i p.2))) (by simp only [V.rel, W.rel, L.rel, mkWrap_ok hp.rng, mkSub_ok, den]) (fun w => by simp only [execOp, hx, Op.unary, Op.intArith]; rfl)
        · cases h
      · split at h
        · rename_i p he
          have := asIntE_eq he
          subst this
          cases h
          have hx : ρ x = .int p.1 (den E.i p.2) := ha.1
          exact lone1_ok (x := .int p.1 (Go.bits .xor p.1 (if p.1.signed then -1 else p.1.max) (den E.i p.2))) (by simp only [V.rel, W.rel, L.rel, mkBits_ok hp.rng, den]) (fun w => by simp only [execOp, hx, Op.unary, intBits_xor]; rfl)
        · cases h
      · cases h
    · cases h
  case convert s d x =>
    split at h
    · rename_i v
      split at h
      · rename_i p ds k h1 h2 h3
        have := asIntE_eq h1
        subst this
        cases h
        have hx : ρ x = .int p.1 (den E.i p.2) := ha.1
        refine lone1_ok (x := .int k (k.wrap (den E.i p.2))) (by simp only [V.rel, W.rel, L.rel, mkWrap_ok hp.rng]) (fun w => ?_)
        simp only [execOp, hx, convert, Sem.run_bind, run_under h2, run_under h3, Result.andThen_ok]
        rfl
      · cases h
    · cases h
  case fieldAddr t x f =>
    split at h
    · rename_i v
      split at h
      · rename_i p fs h1 h2
        have := asPtr_eq h1
        subst this
        split at h
        · rename_i g hg
          split at h
          · rename_i n hn
            split at h
            · cases h
            · rename_i hn0
              cases h
              obtain ⟨b, hb, hx⟩ := ha.1
              refine lone1_ok (x := .pointer (some ⟨b, p.2 + g.offset, none⟩)) ⟨b, hb, rfl⟩ (fun w => ?_)
              simp only [execOp, Instr.fieldAt, hx, Sem.run_bind, run_under h2, Result.andThen_ok, hg, Instr.sureAddr, Sem.run_pure, fieldPlace, tySize_ok hn, if_neg hn0, addr_add]
          · cases h
        · cases h
      · cases h
    · cases h
  case field t x f =>
    split at h
    · rename_i v
      split at h
      · rename_i ls fs h1 h2
        have := asAggL_eq h1
        subst this
        split at h
        · rename_i g hg
          split at h
          · rename_i w hw
            cases h
            obtain ⟨cs, hx, hcs⟩ := ha.1
            obtain ⟨y, hy, hrun⟩ := partW_ok hw hcs
            refine lone1_ok (x := y) hy (fun wd => ?_)
            simp only [execOp, Instr.field, hx, Sem.run_bind, run_under h2, Result.andThen_ok, hg, asAgg, Sem.run_pure, hrun]
          · cases h
        · cases h
      · cases h
    · cases h
  case indexAddr t x i =>
    split at h
    · rename_i vp vi
      split at h
      · rename_i p ke len el h1 h2 h3
        have := asPtr_eq h1
        subst this
        have := asIntE_eq h2
        subst this
        split at h
        · rename_i n hn
          obtain ⟨⟨b, hb, hx⟩, hi, _⟩ := ha
          have hi' : ρ i = .int ke.1 (den E.i ke.2) := hi
          refine atIndex_ok hp h (fun h0 hl v hv => ?_)
          cases hv
          refine ⟨.pointer (some ⟨b, p.2 + (den E.i ke.2).toNat * n, none⟩), ⟨b, hb, rfl⟩, fun w => ?_⟩
          simp only [execOp, Instr.indexAt, hx, hi', asIntOf, Sem.run_bind, Sem.run_pure, run_under h3, Result.andThen_ok, Instr.sureAddr, if_pos (And.intro h0 hl), tySize_ok hn, addr_add]
        · cases h
      · cases h
    · cases h
  case index t x i =>
    split at h
    · rename_i vp vi
      split at h
      · rename_i ls ke len el h1 h2 h3
        have := asAggL_eq h1
        subst this
        have := asIntE_eq h2
        subst this
        split at h
        · rename_i n hn
          obtain ⟨⟨cs, hx, hcs⟩, hi, _⟩ := ha
          have hi' : ρ i = .int ke.1 (den E.i ke.2) := hi
          refine atIndex_ok hp h (fun h0 hl v hv => ?_)
          cases hpw : partW P el ls ((den E.i ke.2).toNat * n) with
          | none => rw [hpw] at hv; cases hv
          | some w =>
            rw [hpw] at hv
            cases hv
            obtain ⟨y, hy, hrun⟩ := partW_ok hpw hcs
            refine ⟨y, hy, fun wd => ?_⟩
            simp only [execOp, Instr.index, hx, hi', asIntOf, Sem.run_bind, Sem.run_pure, run_under h3, Result.andThen_ok, if_pos (And.intro h0 hl), tySize_ok hn, hrun]
        · cases h
      · cases h
    · cases h
  case extract x i =>
    split at h
    · rename_i ws
      split at h
      · rename_i w hw
        cases h
        obtain ⟨xs, hx, hr⟩ := ha.1
        obtain ⟨y, hy, hyr⟩ := hr.get i w hw
        refine lone1_ok (x := y) hyr (fun wd => ?_)
        have : xs[i]? = some y := by simpa using hy
        simp only [execOp, Instr.extract, hx, this]; rfl
      · cases h
    · cases h
  case call c =>
    split at h
    · rename_i cal fx fv as hcal
      split at h
      · rename_i f hf
        have := asFn_eq hf
        subst this
        split at h
        · rename_i fn hfn
          split at h
          · cases h
          · rename_i hb
            cases h
            have e0 : c.operands.toList = fx :: c.args.toList := by simp [Call.operands, hcal]
            rw [e0] at ha
            simp only [Bool.or_eq_true, not_or, Bool.not_eq_true] at hb
            obtain ⟨h1, h2⟩ := ha
            have hx : ρ fx = .func (.func f) #[] #[] := h1
            refine ⟨c.args.toList.map ρ, h2, fun w => ?_⟩
            have e : c.args.map ρ = (c.args.toList.map ρ).toArray := by apply Array.ext'; simp
            simp only [execOp, resolve, hcal, Deferred.ofValue, hx, Sem.run_bind, Sem.run_pure, Result.andThen_ok, invoke, callFunc, run_program, hfn, hb.1, hb.2, Bool.false_eq_true, if_false, Array.empty_append, Array.append_empty, e]
        · cases h
      · cases h
    · cases h
end Go.Proofs.YtachmoamlalimaaDoorSx
namespace Go.Proofs.YtachmoamlalimaaDoorSx
open Go Go.RowKit

structure Eff where
  v : V
  rd : List Nat
  wr : Option (Nat × Option Blk)
abbrev Handler := FuncId → List V → Pc → Option (List (Pc × V))

def L.flat : L → Bool
  | .ptr _ _ => false
  | _ => true
def W.flat : W → Bool
  | .one l => l.flat
  | .agg ls => ls.all L.flat
def V.flat : V → Bool
  | .val w => w.flat
  | .tup ws => ws.all W.flat
theorem L.rel_flat {E : Env} {β β' : Bm} {l : L} {x : Value} (hf : l.flat = true) (h : l.rel E β x) : l.rel E β' x := by
  cases l <;> first | exact h | cases hf
theorem all2_flat {α : Type} {p : α → Bool} {R R' : α → Value → Prop} (hm : ∀ a x, p a = true → R a x → R' a x) : ∀ {ls : List α} {xs : List Value}, ls.all p = true → All2 R ls xs → All2 R' ls xs
  | [], [], _, _ => trivial
  | l :: ls, x :: xs, hf, h => by
    simp only [List.all_cons, Bool.and_eq_true] at hf
    exact ⟨hm _ _ hf.1 h.1, all2_flat hm hf.2 h.2⟩
  | [], _ :: _, _, h => h.elim
  | _ :: _, [], _, h => h.elim
theorem W.rel_flat {E : Env} {β β' : Bm} {w : W} {x : Value} (hf : w.flat = true) (h : w.rel E β x) : w.rel E β' x := by
  cases w with
  | one l => exact L.rel_flat hf h
  | agg ls => obtain ⟨cs, h1, h2⟩ := h; exact ⟨cs, h1, all2_flat (fun _ _ => L.rel_flat) hf h2⟩
theorem V.rel_flat {E : Env} {β β' : Bm} {v : V} {x : Value} (hf : v.flat = true) (h : v.rel E β x) : v.rel E β' x := by
  cases v with
  | val w => exact W.rel_flat hf h
  | tup ws => obtain ⟨xs, h1, h2⟩ := h; exact ⟨xs, h1, all2_flat (fun _ _ => W.rel_flat) hf h2⟩
theorem all2_vflat {E : Env} {β β' : Bm} {vs : List V} {xs : List Value} (hf : vs.all V.flat = true) (h : All2 (V.rel E β) vs xs) : All2 (V.rel E β') vs xs :=
  all2_flat (fun _ _ => V.rel_flat) hf h

/-- no pointer is known -/
def noB : Bm := fun _ => none
/-- the tables stand as they should -/
def GlobOk (E : Env) (G : List (Nat × List L)) (w : World) : Prop := ∀ (i : Nat) (g : Nat × List L), G[i]? = some g → g.1 < w.heap.size ∧ CellsOk E noB w g.1 g.2
def CallOk (P : Program) (E : Env) (G : List (Nat × List L)) (call : Handler) : Prop :=
  ∀ f args pc l, call f args pc = some l → PcOk E.i pc → ∃ p ∈ l, PcOk E.i p.1 ∧ ∀ xs w, All2 (V.rel E noB) args xs → GlobOk E G w →
    Calls P f xs.toArray w fun e w' => ∃ x, e = .returned x ∧ p.2.rel E noB x ∧ Below w.heap.size w w'

def valPaths (pc : Pc) : List (Ex × V) → List (Pc × Eff)
  | [] => []
  | (c, v) :: r => match truth pc c with
    | some false => valPaths pc r
    | some true => (pc, ⟨v, [], none⟩) :: valPaths pc r
    | none => (assume pc c true, ⟨v, [], none⟩) :: valPaths pc r
theorem valPaths_ok {env : Nat → Int} {pc : Pc} (hp : PcOk env pc) : ∀ {l : List (Ex × V)} {p : Ex × V}, p ∈ l → tr (den env p.1) = true → ∃ q ∈ valPaths pc l, PcOk env q.1 ∧ q.2 = ⟨p.2, [], none⟩
  | (c, v) :: r, p, hm, ht => by
    unfold valPaths
    rcases List.mem_cons.1 hm with rfl | hm
    · split
      · rename_i hf; rw [truth_ok hp _ _ hf] at ht; cases ht
      · exact ⟨_, List.mem_cons_self, hp, rfl⟩
      · exact ⟨_, List.mem_cons_self, assume_ok _ _ hp ht, rfl⟩
    · obtain ⟨q, hq, h1, h2⟩ := valPaths_ok hp hm ht
      split
      · exact ⟨q, hq, h1, h2⟩
      · exact ⟨q, List.mem_cons_of_mem _ hq, h1, h2⟩
      · exact ⟨q, List.mem_cons_of_mem _ hq, h1, h2⟩

def effects (call : Handler) (pc : Pc) (q : Req) (s : S) (fresh : Nat) : Option (List (Pc × Eff)) :=
  match q with
  | .vals l => some (valPaths pc l)
  | .load id off n agg => match s.blk id with
    | some blk => if off + n ≤ blk.cells.length then some [(pc, ⟨.val (if agg then .agg ((blk.cells.drop off).take n) else .one (blk.cells.getD off .junk)), [id], none⟩)] else none
    | none => none
  | .alloc cells => some [(pc, ⟨.val (.one (.ptr fresh 0)), [], some (fresh, some ⟨cells, true⟩)⟩)]
  | .store id off cells => match s.blk id with
    | some blk => if blk.own && Nat.ble (off + cells.length) blk.cells.length then some [(pc, ⟨undefV, [id], some (id, some ⟨setRun off cells blk.cells, true⟩)⟩)] else none
    | none => none
  | .call f args => if args.all V.flat then (match call f args pc with
    | some l => if l.all (fun p => p.2.flat) then some (l.map fun p => (p.1, ⟨p.2, [], none⟩)) else none
    | none => none) else none

section
variable {P : Program} {X : Cx}

theorem RepB.globOk {D : Dx} {β : Bm} {s : S} {a : Act} {w : World} (h : RepB X D β s a w) : GlobOk X.E X.G w := fun i g hg =>
  ⟨Nat.lt_of_lt_of_le (h.glob i g hg).2.1 h.base, (h.glob i g hg).2.2⟩

/-- one path of what a request comes to -/
theorem effects_ok {call : Handler} (hcall : CallOk P X.E X.G call) {pc : Pc} (hp : PcOk X.E.i pc) {op : Op} {args : List V} {q : Req} (hq : request P pc op args = some q) {s : S} {fresh : Nat} (hfresh : s.blk fresh = none)
    {paths : List (Pc × Eff)} (h : effects call pc q s fresh = some paths) :
    ∃ p ∈ paths, PcOk X.E.i p.1 ∧ ∀ (o : Oper), o.op = op → (∀ t, o.dst = some t → t < X.n) → ∀ D s2 a w, Rep X D s2 a w → (∀ β, RepB X D β s2 a w → All2 (V.rel X.E β) args (op.operands.toList.map a.eval)) →
      (∀ id ∈ p.2.rd, s2.blk id = s.blk id) → (∀ id b, p.2.wr = some (id, b) → s2.blk id = s.blk id) →
      ∀ (K : Act → World → Prop) (Q : Exit → Act → World → Prop), (∀ a' w', Rep X D ⟨upd s2.tmp (wrT o.dst p.2.v), upd s2.blk p.2.wr⟩ a' w' → K a' w') → o.wp P a w K Q := by
  have updNone : ∀ (f : Nat → Option Blk), upd f none = f := fun _ => rfl
  unfold effects at h
  split at h
  · rename_i l
    cases h
    obtain ⟨r, hr, htr⟩ := request_some hp hq
    obtain ⟨p, hpm, hpp, he⟩ := valPaths_ok hp hr htr
    refine ⟨p, hpm, hpp, fun o ho hd D s2 a w hR hargs _ _ K Q hK => ?_⟩
    subst ho
    have hR' := hR
    obtain ⟨_, β, hB⟩ := hR'
    obtain ⟨_, h2⟩ := request_ok hp hq (hargs β hB)
    obtain ⟨x, hx, hrun⟩ := h2 r hr htr
    unfold Oper.wp
    rw [hrun w]
    refine hK _ _ ?_
    rw [he]
    exact hR.put hd (fun β' hB' => by
      obtain ⟨_, h2'⟩ := request_ok hp hq (hargs β' hB')
      obtain ⟨x', hx', hrun'⟩ := h2' r hr htr
      have := (hrun w).symm.trans (hrun' w)
      simp only [Result.ok.injEq, Next.value.injEq] at this
      rw [this.1]; exact hx')
  · rename_i id off n agg
    split at h
    · rename_i blk hblk
      split at h
      · rename_i hlen
        cases h
        refine ⟨_, List.mem_singleton.2 rfl, hp, fun o ho hd D s2 a w hR hargs hrd _ K Q hK => ?_⟩
        subst ho
        have hs2 : s2.blk id = some blk := by rw [hrd id (by simp), hblk]
        have hR' := hR
        obtain ⟨hw, β, hB⟩ := hR'
        obtain ⟨b, hb, _, h2⟩ := request_ok hp hq (hargs β hB)
        obtain ⟨b', k1, k2, k3, k4⟩ := hB.mem id blk hs2
        rw [hb] at k1; cases k1
        obtain ⟨x, hx, hrun⟩ := h2 w blk.cells k4 hlen
        unfold Oper.wp
        rw [hrun]
        refine hK _ _ ?_
        exact ⟨hw, β, hB.put hd hx⟩
      · cases h
    · cases h
  · rename_i cells
    cases h
    refine ⟨_, List.mem_singleton.2 rfl, hp, fun o ho hd D s2 a w hR hargs _ hwr K Q hK => ?_⟩
    subst ho
    have hs2 : s2.blk fresh = none := by rw [hwr _ _ rfl, hfresh]
    have hR' := hR
    obtain ⟨hw, β, hB⟩ := hR'
    obtain ⟨cs, ty, hcs, hrun⟩ := request_ok hp hq (hargs β hB)
    unfold Oper.wp
    rw [hrun w]
    refine hK _ _ ?_
    refine hR.alloc hs2 hd (cs := cs) (ty := ty) (fun β' hB' => ?_)
    obtain ⟨cs', ty', hcs', hrun'⟩ := request_ok hp hq (hargs β' hB')
    have := (hrun w).symm.trans (hrun' w)
    simp only [Result.ok.injEq, true_and] at this
    have hh := congrArg (fun wd : World => wd.heap[w.heap.size]?) this
    simp only [World.alloc, Array.getElem?_push_size, Option.some.injEq, Obj.cells.injEq] at hh
    have e : cs = cs' := by simpa using hh.1
    rw [e]; exact hcs'
  · rename_i id off cells
    split at h
    · rename_i blk hblk
      split at h
      · rename_i hc
        simp only [Bool.and_eq_true] at hc
        cases h
        refine ⟨_, List.mem_singleton.2 rfl, hp, fun o ho hd D s2 a w hR hargs hrd _ K Q hK => ?_⟩
        subst ho
        have hs2 : s2.blk id = some blk := by rw [hrd id (by simp), hblk]
        have hR' := hR
        obtain ⟨hw, β, hB⟩ := hR'
        obtain ⟨b, cs, hb, hcs, hone, h2⟩ := request_ok hp hq (hargs β hB)
        obtain ⟨w', r1, r2, r3⟩ := storeCells_ok (P := P) hb off cells cs 0 s2 w blk hcs hone hB hw hs2 hc.1 (by have := Nat.le_of_ble_eq_true hc.2; omega)
        unfold Oper.wp
        rw [h2 w w' r1]
        refine hK _ _ ⟨r2, β, ?_⟩
        exact r3.put hd (undefV_ok _ _)
      · cases h
    · cases h
  · rename_i f as
    split at h
    · rename_i hfl
      split at h
      · rename_i l hl
        split at h
        · rename_i hfr
          cases h
          obtain ⟨p, hpm, hpp, hC⟩ := hcall f as pc l hl hp
          have hpf : p.2.flat = true := List.all_eq_true.1 hfr p hpm
          refine ⟨_, List.mem_map.2 ⟨p, hpm, rfl⟩, hpp, fun o ho hd D s2 a w hR hargs _ _ K Q hK => ?_⟩
          subst ho
          have hR' := hR
          obtain ⟨hw, β, hB⟩ := hR'
          obtain ⟨xs, hxs, hrun⟩ := request_ok hp hq (hargs β hB)
          unfold Oper.wp
          rw [hrun w]
          simp only [Oper.upon]
          refine (hC xs w (all2_vflat hfl hxs) hB.globOk).mono ?_
          rintro e w' ⟨x, rfl, hx, hbel⟩
          exact hK _ _ ((hR.below hbel).put hd (fun β' _ => V.rel_flat hpf hx))
        · cases h
      · cases h
    · cases h

/-! ### one operation of a region -/
def opnd (G : List (Nat × List L)) (s : S) : Operand → Option V
  | .tmp t => some (s.tmp t)
  | .const v => match ofVal v with
    | some w => some (.val w)
    | none => none
  | .global g => match G.findIdx? (fun p => Nat.beq p.1 g) with
    | some i => some (.val (.one (.ptr i 0)))
    | none => none
  | .func f => some (.val (.one (.cst (.func (.func f) #[] #[]))))
theorem opnd_ok {D : Dx} {β : Bm} {s : S} {a : Act} {w : World} (h : RepB X D β s a w) {x : Operand} {v : V} (ho : opnd X.G s x = some v) : v.rel X.E β (a.eval x) := by
  cases x with
  | tmp t => simp only [opnd, Option.some.injEq] at ho; subst ho; exact h.tmps t
  | const u =>
    simp only [opnd] at ho
    split at ho
    · rename_i w' hw; cases ho; exact ofVal_ok hw
    · cases ho
  | global g =>
    simp only [opnd] at ho
    split at ho
    · rename_i i hi
      cases ho
      obtain ⟨hlt, hp, _⟩ := List.findIdx?_eq_some_iff_getElem.1 hi
      have := h.glob i _ (List.getElem?_eq_getElem hlt)
      rw [Nat.eq_of_beq_eq_true hp] at this
      exact ⟨g, this.1, rfl⟩
    · cases ho
  | func f => simp only [opnd, Option.some.injEq] at ho; subst ho; rfl
def argsOf (G : List (Nat × List L)) (s : S) : List Operand → Option (List V)
  | [] => some []
  | x :: xs => match opnd G s x, argsOf G s xs with
    | some v, some vs => some (v :: vs)
    | _, _ => none
theorem argsOf_ok {D : Dx} {β : Bm} {s : S} {a : Act} {w : World} (h : RepB X D β s a w) : ∀ {xs : List Operand} {vs : List V}, argsOf X.G s xs = some vs → All2 (V.rel X.E β) vs (xs.map a.eval)
  | [], vs, ho => by simp [argsOf] at ho; subst ho; trivial
  | x :: xs, vs, ho => by
    unfold argsOf at ho
    split at ho
    · rename_i v vs' h1 h2; cases ho; exact ⟨opnd_ok h h1, argsOf_ok h h2⟩
    · cases ho
theorem argsOf_congr {s s2 : S} : ∀ {xs : List Operand}, (∀ t, Operand.tmp t ∈ xs → s2.tmp t = s.tmp t) → argsOf X.G s2 xs = argsOf X.G s xs
  | [], _ => rfl
  | x :: xs, h => by
    unfold argsOf
    rw [argsOf_congr (xs := xs) (fun t ht => h t (List.mem_cons_of_mem _ ht))]
    have : opnd X.G s2 x = opnd X.G s x := by
      cases x with
      | tmp t => simp only [opnd, h t List.mem_cons_self]
      | _ => rfl
    rw [this]

def notBool : Value → Bool
  | .bool _ => false
  | _ => true
/-- is an operation of a region wanted? -/
def wantedBy (ops : List Oper) (s : S) (pc : Pc) (o : Oper) : Option (List (Pc × Bool)) :=
  match o.guard with
  | none => some [(pc, true)]
  | some (j, want) => match (ops[j]?).bind (·.dst) with
    | none => none
    | some t => match s.tmp t with
      | .val (.one (.bool e)) => (match truthC pc e with
        | some b => some [(pc, b == want)]
        | none => some [(assume pc e true, true == want), (assume pc e false, false == want)])
      | .val (.one (.cst v)) => if notBool v then some [(pc, false)] else none
      | _ => none
theorem wantedBy_ok {ops : Array Oper} {s : S} {pc : Pc} (hp : PcOk X.E.i pc) {o : Oper} {l : List (Pc × Bool)} (h : wantedBy ops.toList s pc o = some l) :
    ∃ p ∈ l, PcOk X.E.i p.1 ∧ ∀ D s2 a w, Rep X D s2 a w → (∀ t ∈ o.looksAt ops, s2.tmp t = s.tmp t) → Region.wanted o (yielded ops a.tmps) = p.2 := by
  unfold wantedBy at h
  split at h
  · rename_i hg
    cases h
    exact ⟨_, List.mem_singleton.2 rfl, hp, fun D s2 a w _ _ => by simp [Region.wanted, hg]⟩
  · rename_i j want hg
    split at h
    · cases h
    · rename_i t ht
      have ht' : (ops[j]?).bind (·.dst) = some t := by rw [← Array.getElem?_toList]; exact ht
      have hlook : t ∈ o.looksAt ops := by unfold Oper.looksAt; rw [hg]; simp [ht']
      split at h
      · rename_i e he
        have key : ∀ D s2 a w, Rep X D s2 a w → (∀ t ∈ o.looksAt ops, s2.tmp t = s.tmp t) → Region.wanted o (yielded ops a.tmps) = (tr (den X.E.i e) == want) := by
          intro D s2 a w hR hag
          obtain ⟨_, β, hB⟩ := hR
          have h1 := hB.tmps t
          rw [hag t hlook, he] at h1
          have h2 : a.tmps.getD t undef = .bool (tr (den X.E.i e)) := h1
          have h3 : a.tmps[t]? = some (.bool (tr (den X.E.i e))) := by
            rw [Array.getD_eq_getD_getElem?] at h2
            cases h4 : a.tmps[t]? with
            | none => rw [h4] at h2; cases h2
            | some u => rw [h4] at h2; simp at h2; rw [h2]
          unfold Region.wanted yielded
          simp only [hg, ht', Option.bind_some, h3]
          cases tr (den X.E.i e) <;> cases want <;> rfl
        split at h
        · rename_i b hb
          cases h
          refine ⟨_, List.mem_singleton.2 rfl, hp, fun D s2 a w hR hag => ?_⟩
          rw [key D s2 a w hR hag, truthC_ok hp _ _ hb]
        · cases h
          cases hb : tr (den X.E.i e) with
          | true => exact ⟨_, List.mem_cons_self, assume_ok _ _ hp hb, fun D s2 a w hR hag => by rw [key D s2 a w hR hag, hb]⟩
          | false => exact ⟨_, List.mem_cons_of_mem _ List.mem_cons_self, assume_ok _ _ hp hb, fun D s2 a w hR hag => by rw [key D s2 a w hR hag, hb]⟩
      · rename_i v he
        split at h
        · rename_i hv
          cases h
          refine ⟨_, List.mem_singleton.2 rfl, hp, fun D s2 a w hR hag => ?_⟩
          obtain ⟨_, β, hB⟩ := hR
          have h1 := hB.tmps t
          rw [hag t hlook, he] at h1
          have h2 : a.tmps.getD t undef = v := h1
          unfold Region.wanted yielded
          simp only [hg, ht', Option.bind_some]
          cases h4 : a.tmps[t]? with
          | none => cases want <;> rfl
          | some u =>
            rw [Array.getD_eq_getD_getElem?, h4] at h2
            simp at h2
            subst h2
            cases u <;> first | (cases hv; done) | (cases want <;> rfl)
        · cases h
      · cases h

def collect {α β : Type} (f : α → Option (List β)) : List α → Option (List β)
  | [] => some []
  | x :: xs => match f x, collect f xs with
    | some r, some rs => some (r ++ rs)
    | _, _ => none
theorem collect_ok {α β : Type} {f : α → Option (List β)} : ∀ {l : List α} {r : List β}, collect f l = some r → ∀ x ∈ l, ∃ ys, f x = some ys ∧ ∀ y ∈ ys, y ∈ r
  | x :: xs, r, h, z, hz => by
    unfold collect at h
    split at h
    · rename_i a b h1 h2
      cases h
      rcases List.mem_cons.1 hz with rfl | hz
      · exact ⟨a, h1, fun y hy => List.mem_append_left _ hy⟩
      · obtain ⟨ys, k1, k2⟩ := collect_ok h2 z hz
        exact ⟨ys, k1, fun y hy => List.mem_append_right _ (k2 y hy)⟩
    · cases h

def evOp (P : Program) (G : List (Nat × List L)) (call : Handler) (ops : List Oper) (o : Oper) (pc : Pc) (s : S) (fresh : Nat) : Option (List (Pc × Eff)) :=
  match wantedBy ops s pc o with
  | none => none
  | some l => collect (fun p => if p.2 then (match argsOf G s o.op.operands.toList with
      | some args => (match request P p.1 o.op args with
        | some q => effects call p.1 q s fresh
        | none => none)
      | none => none)
    else some [(p.1, ⟨undefV, [], none⟩)]) l

def wrOf (ops : Array Oper) (o : Oper) (e : Eff) : Wr V (Option Blk) := ⟨wrT o.dst e.v, e.wr, o.looksAt ops, e.rd ++ (match e.wr with | some p => [p.1] | none => [])⟩

/-- an operation, in whatever state agrees with the text's on what it looks at -/
def OpStep (P : Program) (X : Cx) (ops : Array Oper) (o : Oper) (s : S) (wr : Wr V (Option Blk)) : Prop :=
  ∀ D s2, Agree wr s2 s → ∀ a w, Rep X D s2 a w → ∀ (K : Act → World → Prop) (Q : Exit → Act → World → Prop), (∀ a' w', Rep X D (s2.app wr) a' w' → K a' w') →
    if Region.wanted o (yielded ops a.tmps) then o.wp P a w K Q else K (a.put o.dst undef) w

theorem evOp_ok {call : Handler} (hcall : CallOk P X.E X.G call) {ops : Array Oper} {o : Oper} {pc : Pc} (hp : PcOk X.E.i pc) {s : S} {fresh : Nat} (hfresh : s.blk fresh = none) (hd : ∀ t, o.dst = some t → t < X.n)
    {l : List (Pc × Eff)} (h : evOp P X.G call ops.toList o pc s fresh = some l) : ∃ p ∈ l, PcOk X.E.i p.1 ∧ OpStep P X ops o s (wrOf ops o p.2) := by
  unfold evOp at h
  split at h
  · cases h
  · rename_i l0 h0
    obtain ⟨r, hr, hrp, hrw⟩ := wantedBy_ok (X := X) hp h0
    obtain ⟨ys, hy, hys⟩ := collect_ok h r hr
    split at hy
    · rename_i hwant
      split at hy
      · rename_i args hargs
        split at hy
        · rename_i q hq
          obtain ⟨p, hpm, hpp, hgo⟩ := effects_ok hcall hrp hq hfresh hy
          refine ⟨p, hys p hpm, hpp, fun D s2 hag a w hR K Q hK => ?_⟩
          rw [hrw D s2 a w hR hag.1, hwant, if_pos rfl]
          refine hgo o rfl hd D s2 a w hR (fun β hB => ?_) (fun id hid => hag.2 id (by simp [wrOf, hid])) (fun id b hw => hag.2 id (by simp [wrOf, hw])) K Q hK
          refine argsOf_ok hB ?_
          rw [argsOf_congr (s := s) (fun t ht => hag.1 t ?_)]
          · exact hargs
          · show t ∈ o.looksAt ops
            unfold Oper.looksAt
            exact List.mem_append_left _ (List.mem_filterMap.2 ⟨.tmp t, ht, rfl⟩)
        · cases hy
      · cases hy
    · rename_i hwant
      cases hy
      refine ⟨_, hys _ (List.mem_singleton.2 rfl), hrp, fun D s2 hag a w hR K Q hK => ?_⟩
      rw [hrw D s2 a w hR hag.1, if_neg hwant]
      exact hK _ _ (hR.put hd (fun β _ => undefV_ok _ _))
end
end Go.Proofs.YtachmoamlalimaaDoorSx
namespace Go.Proofs.YtachmoamlalimaaDoorSx
open Go Go.RowKit

/-- the place n of a list, by the recursors themselves: the kernel reads it faster so -/
noncomputable def lget {α : Type} (d : α) (l : List α) : Nat → α :=
  List.rec (motive := fun _ => Nat → α) (fun _ => d) (fun x _ ih n => Nat.rec (motive := fun _ => α) x (fun m _ => ih m) n) l
theorem lget_eq {α : Type} (d : α) : ∀ (l : List α) (n : Nat), lget d l n = l.getD n d
  | [], n => by simp [lget]
  | x :: xs, 0 => rfl
  | x :: xs, n + 1 => by
    have := lget_eq d xs n
    simp only [List.getD_cons_succ, ← this]; rfl
noncomputable def lset {α : Type} (v : α) (l : List α) : Nat → List α :=
  List.rec (motive := fun _ => Nat → List α) (fun _ => []) (fun x xs ih n => Nat.rec (motive := fun _ => List α) (v :: xs) (fun m _ => x :: ih m) n) l
theorem lset_eq {α : Type} (v : α) : ∀ (l : List α) (n : Nat), lset v l n = l.set n v
  | [], n => by simp [lset]
  | x :: xs, 0 => rfl
  | x :: xs, n + 1 => by
    have := lset_eq v xs n
    simp only [List.set_cons_succ, ← this]; rfl

/-- a state: the frame; the blocks -/
structure St where
  tmps : List V
  mem : List Blk
def St.fits (σ : St) (n : Nat) : Prop := σ.tmps.length = n
noncomputable def view (σ : St) : S := ⟨fun t => lget (.val (.one .junk)) σ.tmps t, fun id => σ.mem[id]?⟩

noncomputable def appT (n : Nat) (ts : List V) (d : Option Tmp) (v : V) : Option (List V) :=
  match d with
  | none => some ts
  | some t => if Nat.blt t n then some (lset v ts t) else none
def appM (ms : List Blk) (w : Option (Nat × Option Blk)) : Option (List Blk) :=
  match w with
  | none => some ms
  | some (id, some b) => (match ms[id]? with
    | some _ => some (ms.set id b)
    | none => if Nat.beq id ms.length then some (ms ++ [b]) else none)
  | some (_, none) => none
theorem appT_ok {n : Nat} {ts ts' : List V} (hf : ts.length = n) {d : Option Tmp} {v : V} (h : appT n ts d v = some ts') :
    (fun t => lget (.val (.one .junk)) ts' t) = upd (fun t => lget (.val (.one .junk)) ts t) (wrT d v) ∧ ts'.length = n := by
  unfold appT at h
  split at h
  · cases h; exact ⟨rfl, hf⟩
  · rename_i t
    split at h
    · rename_i hlt
      cases h
      have hlt' : t < n := by simpa [Nat.blt_eq] using hlt
      refine ⟨?_, by rw [lset_eq]; simpa using hf⟩
      funext u
      simp only [upd, wrT, lget_eq, lset_eq, List.getD_eq_getElem?_getD, List.getElem?_set]
      by_cases e1 : u = t
      · subst e1; rw [← hf] at hlt'; simp [hlt']
      · have : ¬ t = u := fun h => e1 h.symm
        simp [e1, this]
    · cases h
theorem appT_none {n : Nat} {ts : List V} {t : Nat} {v : V} (h : ¬ t < n) : appT n ts (some t) v = none := by
  unfold appT
  have : Nat.blt t n = false := by
    cases hb : Nat.blt t n
    · rfl
    · rw [Nat.blt_eq] at hb; exact absurd hb h
  simp [this]
theorem appM_ok {ms ms' : List Blk} {w : Option (Nat × Option Blk)} (h : appM ms w = some ms') : (fun id => ms'[id]?) = upd (fun id : Nat => ms[id]?) w := by
  unfold appM at h
  split at h
  · cases h; rfl
  · rename_i id b
    split at h
    · rename_i b0 hb0
      cases h
      have hlt : id < ms.length := (List.getElem?_eq_some_iff.1 hb0).1
      funext j
      simp only [upd, List.getElem?_set]
      by_cases e1 : j = id
      · subst e1; simp [hlt]
      · have : ¬ id = j := fun h => e1 h.symm
        simp [e1, this]
    · split at h
      · rename_i hid
        cases h
        have := Nat.eq_of_beq_eq_true hid
        subst this
        funext j
        simp only [upd, List.getElem?_append]
        by_cases e1 : j < ms.length
        · have : ¬ j = ms.length := by omega
          simp [e1, this]
        · by_cases e2 : j = ms.length
          · subst e2; simp
          · rw [if_neg e1, if_neg e2, List.getElem?_eq_none (by simp; omega), List.getElem?_eq_none (by omega)]
      · cases h
  · cases h

section
variable {P : Program} {X : Cx}

noncomputable def runOps (P : Program) (G : List (Nat × List L)) (call : Handler) (n : Nat) (ops : Array Oper) : List Oper → Pc → List V → List Blk → Option (List (Pc × St × List (Wr V (Option Blk))))
  | [], pc, ts, ms => some [(pc, ⟨ts, ms⟩, [])]
  | o :: rest, pc, ts, ms => match evOp P G call ops.toList o pc (view ⟨ts, ms⟩) ms.length with
    | none => none
    | some l => collect (fun p => match p with
      | (pc', e) => match appT n ts o.dst e.v, appM ms e.wr with
        | some ts', some ms' => (match runOps P G call n ops rest pc' ts' ms' with
          | none => none
          | some r => some (r.map fun q => (q.1, q.2.1, wrOf ops o e :: q.2.2)))
        | _, _ => none) l

theorem textSt_cons {α β : Type} (s0 : SS α β) (w : Wr α β) (ws : List (Wr α β)) : ∀ i, textSt s0 (w :: ws) (i + 1) = textSt (s0.app w) ws i
  | 0 => rfl
  | i + 1 => by
    rw [textSt, textSt_cons s0 w ws i]
    simp only [List.getElem?_cons_succ, textSt]

theorem runOps_ok {call : Handler} (hcall : CallOk P X.E X.G call) {ops : Array Oper} : ∀ (rest : List Oper) (pc : Pc) (ts : List V) (ms : List Blk) (l : List (Pc × St × List (Wr V (Option Blk)))),
    runOps P X.G call X.n ops rest pc ts ms = some l → PcOk X.E.i pc → ts.length = X.n →
    ∃ q ∈ l, PcOk X.E.i q.1 ∧ q.2.1.fits X.n ∧ q.2.2.length = rest.length ∧ textSt (view ⟨ts, ms⟩) q.2.2 rest.length = view q.2.1 ∧
      ∀ i w, q.2.2[i]? = some w → ∃ o, rest[i]? = some o ∧ OpStep P X ops o (textSt (view ⟨ts, ms⟩) q.2.2 i) w
  | [], pc, ts, ms, l, h, hp, hn => by
    simp only [runOps, Option.some.injEq] at h; subst h
    exact ⟨_, List.mem_singleton.2 rfl, hp, hn, rfl, rfl, fun i w hw => by simp at hw⟩
  | o :: rest, pc, ts, ms, l, h, hp, hn => by
    unfold runOps at h
    split at h
    · cases h
    · rename_i l0 h0
      have hfresh : (view ⟨ts, ms⟩).blk ms.length = none := by simp [view]
      by_cases hd : ∀ t, o.dst = some t → t < X.n
      · obtain ⟨p, hpm, hpp, hstep⟩ := evOp_ok hcall hp hfresh hd h0
        obtain ⟨ys, hy, hys⟩ := collect_ok h p hpm
        obtain ⟨pc', e⟩ := p
        simp only at hy
        split at hy
        · rename_i ts' ms' k1 k2
          obtain ⟨t1, t2⟩ := appT_ok hn k1
          have m1 := appM_ok k2
          split at hy
          · cases hy
          · rename_i r hr
            cases hy
            obtain ⟨q, hqm, hqp, hqn, hql, hqt, hqs⟩ := runOps_ok hcall rest pc' ts' ms' r hr hpp t2
            have happ : (view ⟨ts, ms⟩).app (wrOf ops o e) = view ⟨ts', ms'⟩ := by
              unfold view; simp only; rw [t1, m1]; rfl
            refine ⟨_, hys _ (List.mem_map.2 ⟨q, hqm, rfl⟩), hqp, hqn, by simp [hql], ?_, fun i w hw => ?_⟩
            · simp only [List.length_cons]
              rw [textSt_cons, happ]; exact hqt
            · cases i with
              | zero =>
                simp only [List.getElem?_cons_zero, Option.some.injEq] at hw
                subst hw
                exact ⟨o, rfl, hstep⟩
              | succ i =>
                simp only [List.getElem?_cons_succ] at hw ⊢
                obtain ⟨o', ho', hs'⟩ := hqs i w hw
                exact ⟨o', ho', by rw [textSt_cons, happ]; exact hs'⟩
        · cases hy
      · -- a slot beyond the frame: the state can't be made
        exfalso
        obtain ⟨t, ht, hlt⟩ : ∃ t, o.dst = some t ∧ ¬ t < X.n := by
          refine Classical.byContradiction fun hc => hd fun t ht => Classical.byContradiction fun h2 => hc ⟨t, ht, h2⟩
        have : l0 = [] := by
          cases l0 with
          | nil => rfl
          | cons p ps =>
            obtain ⟨ys, hy, _⟩ := collect_ok h p List.mem_cons_self
            obtain ⟨pc', e⟩ := p
            simp only at hy
            rw [ht, appT_none hlt] at hy
            cases hy
        subst this
        unfold evOp at h0
        split at h0
        · cases h0
        · rename_i l1 h1
          obtain ⟨r, hr, hrp, _⟩ := wantedBy_ok (X := X) hp h1
          obtain ⟨ys, hy, hys⟩ := collect_ok h0 r hr
          split at hy
          · split at hy
            · split at hy
              · rename_i q hq
                obtain ⟨p, hpm, _⟩ := effects_ok hcall hrp hq hfresh hy
                exact absurd (hys p hpm) (by simp)
              · cases hy
            · cases hy
          · cases hy; exact absurd (hys _ (List.mem_singleton.2 rfl)) (by simp)

/-! ### a region -/
noncomputable def runRegion (P : Program) (G : List (Nat × List L)) (call : Handler) (n : Nat) (ops : Array Oper) (draw : Bool) (pc : Pc) (σ : St) : Option (List (Pc × St)) :=
  match runOps P G call n ops ops.toList pc σ.tmps σ.mem with
  | none => none
  | some l => if draw then
      (if P.follows .mixedOrders && earlier ops.toList && l.all (fun q => ordered (befores ops.toList) 0 q.2.2) then some (l.map fun q => (q.1, q.2.1)) else none)
    else some (l.map fun q => (q.1, q.2.1))

theorem wpList_text {D : Dx} {ops : Array Oper} {Q : Exit → Act → World → Prop} {s0 : S} {ws : List (Wr V (Option Blk))} {all : List Oper} (hl : ws.length = all.length)
    (hs : ∀ i w, ws[i]? = some w → ∃ o, all[i]? = some o ∧ OpStep P X ops o (textSt s0 ws i) w) (hend : ∀ a w, Rep X D (textSt s0 ws all.length) a w → Q .normal a w) :
    ∀ (k i : Nat), k + i = all.length → ∀ a w, Rep X D (textSt s0 ws i) a w → wpList P ops Q (all.drop i) a w
  | 0, i, hk, a, w, hR => by
    have : all.drop i = [] := List.drop_eq_nil_of_le (by omega)
    rw [this]
    have e : i = all.length := by omega
    subst e
    exact hend a w hR
  | k + 1, i, hk, a, w, hR => by
    have hlt : i < all.length := by omega
    rw [List.drop_eq_getElem_cons hlt]
    obtain ⟨o, ho, hstep⟩ := hs i _ (List.getElem?_eq_getElem (by omega : i < ws.length))
    rw [List.getElem?_eq_getElem hlt] at ho
    cases ho
    refine wpList_step fun K hK => ?_
    refine hstep D _ ⟨fun _ _ => rfl, fun _ _ => rfl⟩ a w hR K Q (fun a' w' hR' => hK a' w' ?_)
    refine wpList_text hl hs hend k (i + 1) (by omega) a' w' ?_
    have : textSt s0 ws (i + 1) = (textSt s0 ws i).app ws[i] := by
      rw [textSt, List.getElem?_eq_getElem (by omega : i < ws.length)]
    rw [this]; exact hR'

theorem runRegion_ok {call : Handler} (hcall : CallOk P X.E X.G call) {ops : Array Oper} {draw : Bool} {pc : Pc} {σ : St} {l : List (Pc × St)} (h : runRegion P X.G call X.n ops draw pc σ = some l) (hp : PcOk X.E.i pc) (hn : σ.fits X.n) :
    ∃ q ∈ l, PcOk X.E.i q.1 ∧ q.2.fits X.n ∧ ∀ (id : Nat) (Q : Exit → Act → World → Prop) D a w, Rep X D (view σ) a w → (∀ a' w', Rep X D (view q.2) a' w' → Q .normal a' w') → (Code.region id ops draw).wp P Q a w := by
  unfold runRegion at h
  split at h
  · cases h
  · rename_i l0 h0
    obtain ⟨q, hqm, hqp, hqn, hql, hqt, hqs⟩ := runOps_ok hcall _ _ _ _ _ h0 hp hn
    split at h
    · rename_i hdraw
      subst hdraw
      split at h
      · rename_i hc
        simp only [Bool.and_eq_true] at hc
        cases h
        refine ⟨_, List.mem_map.2 ⟨q, hqm, rfl⟩, hqp, hqn, fun id Q D a w hR hK => ?_⟩
        have ho := List.all_eq_true.1 hc.2 q hqm
        refine wp_region_any hc.1.1 ?_
        refine any_order (R := Rep X D) (s0 := view σ) (ws := q.2.2) (by simpa using hql) hc.1.2 ho (fun i wr hw s hag a' w' hR' => ?_) (fun a' w' hR' => hK a' w' ?_)
          ops.size (Array.replicate ops.size false) (view σ) a _ (by simp) ?_ ?_ ?_ ?_ hR.drew
        · obtain ⟨o, ho', hstep⟩ := hqs i wr hw
          have := hstep D s hag a' w' hR' (fun a'' w'' => Rep X D (s.app wr) a'' w'') Q (fun a'' w'' h => h)
          unfold wpOp
          rw [← Array.getElem?_toList, ho']
          simp only
          split
          · rename_i hw2; rw [if_pos hw2] at this; exact .inl this
          · rename_i hw2; rw [if_neg hw2] at this; exact this
        · rw [← hqt]; simpa using hR'
        · refine Nat.le_trans List.countP_le_length (by simp)
        · intro i hi
          have := hi.2
          simp [hi.1] at this
        · exact (Inv.start _ _).congr (fun j => ⟨fun h => h.elim, fun h => by have := h.2; simp [h.1] at this⟩)
        · exact (Inv.start _ _).congr (fun j => ⟨fun h => h.elim, fun h => by have := h.2; simp [h.1] at this⟩)
      · cases h
    · rename_i hdraw
      have hdraw : draw = false := by simpa using hdraw
      subst hdraw
      cases h
      refine ⟨_, List.mem_map.2 ⟨q, hqm, rfl⟩, hqp, hqn, fun id Q D a w hR hK => ?_⟩
      refine wp_region_list ?_
      have := wpList_text (P := P) (X := X) (D := D) (ops := ops) (Q := Q) (s0 := view σ) (ws := q.2.2) (all := ops.toList) hql hqs (fun a' w' hR' => hK a' w' (by rw [← hqt]; exact hR')) ops.toList.length 0 (by simp) a w hR
      simpa using this

/-! ### code -/
inductive Out where
  | normal
  | ret
  | exit (id : Nat)
def Out.to : Out → Exit
  | .normal => .normal
  | .ret => .ret
  | .exit id => .exit id
abbrev Leaf := Pc × St × Out

def inBlk (id : Nat) : Out → Out
  | .exit j => if Nat.beq j id then .normal else .exit j
  | o => o
noncomputable def branch (G : List (Nat × List L)) (c : Operand) (pc : Pc) (σ : St) : Option (List (Pc × Bool)) :=
  match opnd G (view σ) c with
  | some v => (match asBoolE v with
    | some e => (match truthC pc e with
      | some b => some [(pc, b)]
      | none => some [(assume pc e true, true), (assume pc e false, false)])
    | none => none)
  | none => none
def iter (f : Pc → St → Option (List Leaf)) : Nat → Pc → St → Option (List Leaf)
  | 0, _, _ => none
  | n + 1, pc, σ => match f pc σ with
    | none => none
    | some l => collect (fun q => match q.2.2 with
      | .normal => iter f n q.1 q.2.1
      | o => some [(q.1, q.2.1, o)]) l
noncomputable def evC (P : Program) (G : List (Nat × List L)) (call : Handler) (n fuel : Nat) : Code → Pc → St → Option (List Leaf)
  | .skip, pc, σ => some [(pc, σ, .normal)]
  | .label _, pc, σ => some [(pc, σ, .normal)]
  | .ret, pc, σ => some [(pc, σ, .ret)]
  | .exit id, pc, σ => some [(pc, σ, .exit id)]
  | .region _ ops d, pc, σ => (match runRegion P G call n ops d pc σ with
    | some l => some (l.map fun q => (q.1, q.2, .normal))
    | none => none)
  | .seq x y, pc, σ => (match evC P G call n fuel x pc σ with
    | none => none
    | some l => collect (fun q => match q.2.2 with
      | .normal => evC P G call n fuel y q.1 q.2.1
      | o => some [(q.1, q.2.1, o)]) l)
  | .cond c x y, pc, σ => (match branch G c pc σ with
    | none => none
    | some l => collect (fun p => if p.2 then evC P G call n fuel x p.1 σ else evC P G call n fuel y p.1 σ) l)
  | .block id c, pc, σ => (match evC P G call n fuel c pc σ with
    | none => none
    | some l => some (l.map fun q => (q.1, q.2.1, inBlk id q.2.2)))
  | .loop c, pc, σ => iter (evC P G call n fuel c) fuel pc σ
  | _, _, _ => none

def LeafOk (P : Program) (X : Cx) (c : Code) (σ : St) (q : Leaf) : Prop :=
  PcOk X.E.i q.1 ∧ q.2.1.fits X.n ∧ ∀ (Q : Exit → Act → World → Prop) D a w, Rep X D (view σ) a w → (∀ a' w', Rep X D (view q.2.1) a' w' → Q q.2.2.to a' w') → c.wp P Q a w

theorem iter_ok {f : Pc → St → Option (List Leaf)} {c : Code} (hf : ∀ pc σ l, f pc σ = some l → PcOk X.E.i pc → σ.fits X.n → ∃ q ∈ l, LeafOk P X c σ q) :
    ∀ (n : Nat) (pc : Pc) (σ : St) (l : List Leaf), iter f n pc σ = some l → PcOk X.E.i pc → σ.fits X.n →
      ∃ q ∈ l, PcOk X.E.i q.1 ∧ q.2.1.fits X.n ∧ ∀ (Q : Exit → Act → World → Prop) D a w, Rep X D (view σ) a w → (∀ a' w', Rep X D (view q.2.1) a' w' → Q q.2.2.to a' w') → Code.rounds P c Q n a w
  | 0, _, _, _, h, _, _ => by cases h
  | n + 1, pc, σ, l, h, hp, hn => by
    unfold iter at h
    split at h
    · cases h
    · rename_i l0 h0
      obtain ⟨q, hqm, hqp, hqn, hqw⟩ := hf pc σ l0 h0 hp hn
      obtain ⟨ys, hy, hys⟩ := collect_ok h q hqm
      split at hy
      · rename_i ho
        obtain ⟨r, hrm, hrp, hrn, hrw⟩ := iter_ok hf n _ _ _ hy hqp hqn
        refine ⟨r, hys r hrm, hrp, hrn, fun Q D a w hR hK => ?_⟩
        rw [rounds_succ]
        refine hqw _ D a w hR (fun a' w' hR' => ?_)
        rw [ho]
        exact hrw Q D a' w' hR' hK
      · rename_i o ho hne
        cases hy
        refine ⟨_, hys _ (List.mem_singleton.2 rfl), hqp, hqn, fun Q D a w hR hK => ?_⟩
        rw [rounds_succ]
        refine hqw _ D a w hR (fun a' w' hR' => ?_)
        have := hK a' w' hR'
        simp only at this
        revert this
        generalize q.2.2 = out at *
        cases out with
        | normal => exact absurd rfl hne
        | ret => exact fun h => h
        | exit id => exact fun h => h

theorem evC_ok {call : Handler} (hcall : CallOk P X.E X.G call) {fuel : Nat} : ∀ (c : Code) (pc : Pc) (σ : St) (l : List Leaf), evC P X.G call X.n fuel c pc σ = some l → PcOk X.E.i pc → σ.fits X.n → ∃ q ∈ l, LeafOk P X c σ q := by
  intro c
  induction c with
  | skip => intro pc σ l h hp hn; simp only [evC, Option.some.injEq] at h; subst h; exact ⟨_, List.mem_singleton.2 rfl, hp, hn, fun Q D a w hR hK => wp_skip (hK a w hR)⟩
  | label k => intro pc σ l h hp hn; simp only [evC, Option.some.injEq] at h; subst h; exact ⟨_, List.mem_singleton.2 rfl, hp, hn, fun Q D a w hR hK => wp_label (hK a w hR)⟩
  | ret => intro pc σ l h hp hn; simp only [evC, Option.some.injEq] at h; subst h; exact ⟨_, List.mem_singleton.2 rfl, hp, hn, fun Q D a w hR hK => wp_ret (hK a w hR)⟩
  | exit id => intro pc σ l h hp hn; simp only [evC, Option.some.injEq] at h; subst h; exact ⟨_, List.mem_singleton.2 rfl, hp, hn, fun Q D a w hR hK => wp_exit (hK a w hR)⟩
  | region id ops d =>
    intro pc σ l h hp hn
    simp only [evC] at h
    split at h
    · rename_i l0 h0
      cases h
      obtain ⟨q, hqm, hqp, hqn, hqw⟩ := runRegion_ok hcall h0 hp hn
      exact ⟨_, List.mem_map.2 ⟨q, hqm, rfl⟩, hqp, hqn, fun Q D a w hR hK => hqw id Q D a w hR hK⟩
    · cases h
  | seq x y ihx ihy =>
    intro pc σ l h hp hn
    simp only [evC] at h
    split at h
    · cases h
    · rename_i l0 h0
      obtain ⟨q, hqm, hqp, hqn, hqw⟩ := ihx pc σ l0 h0 hp hn
      obtain ⟨ys, hy, hys⟩ := collect_ok h q hqm
      split at hy
      · rename_i ho
        obtain ⟨r, hrm, hrp, hrn, hrw⟩ := ihy _ _ _ hy hqp hqn
        refine ⟨r, hys r hrm, hrp, hrn, fun Q D a w hR hK => wp_seq ?_⟩
        refine hqw _ D a w hR (fun a' w' hR' => ?_)
        rw [ho]
        exact hrw Q D a' w' hR' hK
      · rename_i o ho hne
        cases hy
        refine ⟨_, hys _ (List.mem_singleton.2 rfl), hqp, hqn, fun Q D a w hR hK => wp_seq ?_⟩
        refine hqw _ D a w hR (fun a' w' hR' => ?_)
        have := hK a' w' hR'
        simp only at this
        revert this
        generalize q.2.2 = out at *
        cases out with
        | normal => exact absurd rfl hne
        | ret => exact fun h => h
        | exit id => exact fun h => h
  | cond c x y ihx ihy =>
    intro pc σ l h hp hn
    simp only [evC] at h
    split at h
    · cases h
    · rename_i l0 h0
      have key : ∃ p ∈ l0, PcOk X.E.i p.1 ∧ ∀ D a w, Rep X D (view σ) a w → a.eval c = .bool p.2 := by
        unfold branch at h0
        split at h0
        · rename_i v hv
          split at h0
          · rename_i e he
            have := asBoolE_eq he
            subst this
            have val : ∀ D a w, Rep X D (view σ) a w → a.eval c = .bool (tr (den X.E.i e)) := fun D a w hR => by
              obtain ⟨_, β, hB⟩ := hR
              exact opnd_ok hB hv
            split at h0
            · rename_i b hb
              cases h0
              exact ⟨_, List.mem_singleton.2 rfl, hp, fun D a w hR => by rw [val D a w hR, truthC_ok hp _ _ hb]⟩
            · cases h0
              cases hb : tr (den X.E.i e) with
              | true => exact ⟨_, List.mem_cons_self, assume_ok _ _ hp hb, fun D a w hR => by rw [val D a w hR, hb]⟩
              | false => exact ⟨_, List.mem_cons_of_mem _ List.mem_cons_self, assume_ok _ _ hp hb, fun D a w hR => by rw [val D a w hR, hb]⟩
          · cases h0
        · cases h0
      obtain ⟨p, hpm, hpp, hpe⟩ := key
      obtain ⟨ys, hy, hys⟩ := collect_ok h p hpm
      split at hy
      · rename_i hb
        obtain ⟨r, hrm, hrp, hrn, hrw⟩ := ihx _ _ _ hy hpp hn
        refine ⟨r, hys r hrm, hrp, hrn, fun Q D a w hR hK => wp_cond (hpe D a w hR) ?_⟩
        rw [hb, if_pos rfl]
        exact hrw Q D a w hR hK
      · rename_i hb
        obtain ⟨r, hrm, hrp, hrn, hrw⟩ := ihy _ _ _ hy hpp hn
        refine ⟨r, hys r hrm, hrp, hrn, fun Q D a w hR hK => wp_cond (hpe D a w hR) ?_⟩
        rw [if_neg hb]
        exact hrw Q D a w hR hK
  | block id c ih =>
    intro pc σ l h hp hn
    simp only [evC] at h
    split at h
    · cases h
    · rename_i l0 h0
      cases h
      obtain ⟨q, hqm, hqp, hqn, hqw⟩ := ih pc σ l0 h0 hp hn
      refine ⟨_, List.mem_map.2 ⟨q, hqm, rfl⟩, hqp, hqn, fun Q D a w hR hK => wp_block ?_⟩
      refine hqw _ D a w hR (fun a' w' hR' => ?_)
      have := hK a' w' hR'
      simp only at this
      revert this
      generalize q.2.2 = out at *
      cases out with
      | normal => exact fun h => h
      | ret => exact fun h => h
      | exit j =>
        by_cases hj : j = id
        · subst hj
          simp only [inBlk, Nat.beq_refl, if_true, Out.to, Exit.inBlock]; exact fun h => h
        · have : Nat.beq j id = false := by
            cases hb : Nat.beq j id
            · rfl
            · exact absurd (Nat.eq_of_beq_eq_true hb) hj
          simp only [inBlk, this, Bool.false_eq_true, if_false, Out.to, Exit.inBlock, if_neg hj]; exact fun h => h
  | loop c ih =>
    intro pc σ l h hp hn
    simp only [evC] at h
    obtain ⟨q, hqm, hqp, hqn, hqw⟩ := iter_ok (fun pc σ l => ih pc σ l) fuel pc σ l h hp hn
    exact ⟨q, hqm, hqp, hqn, fun Q D a w hR hK => wp_loop_rounds fuel (hqw Q D a w hR hK)⟩
  | _ => intro pc σ l h hp hn; simp only [evC] at h; cases h

/-! ### functions -/
noncomputable def resW (P : Program) (σ : St) : ResultVar → Option V
  | .tmp t => some ((view σ).tmp t)
  | .cell a ty => match asPtr ((view σ).tmp a), tyAgg P ty, tySize P ty with
    | some p, some true, some n => match (view σ).blk p.1 with
      | some blk => if p.2 + n ≤ blk.cells.length then some (.val (.agg ((blk.cells.drop p.2).take n))) else none
      | none => none
    | some p, some false, some _ => match (view σ).blk p.1 with
      | some blk => match blk.cells[p.2]? with
        | some l => some (.val (.one l))
        | none => none
      | none => none
    | _, _, _ => none
noncomputable def resWs (P : Program) (σ : St) : List ResultVar → Option (List V)
  | [] => some []
  | r :: rs => match resW P σ r, resWs P σ rs with
    | some v, some vs => some (v :: vs)
    | _, _ => none
noncomputable def resV (P : Program) (fn : Func) (σ : St) : Option V :=
  match resWs P σ fn.results.toList with
  | some [v] => some v
  | some vs => (match allW vs with | some ws => some (.tup ws) | none => none)
  | none => none

def readRes (ts : Array Value) : ResultVar → Sem Value
  | .tmp t => pure (ts.getD t undef)
  | .cell p ty => do loadVar ty (← asAddr (ts.getD p undef))
theorem resW_ok {D : Dx} {σ : St} {β : Bm} {a : Act} {w : World} (h : RepB X D β (view σ) a w) {r : ResultVar} {v : V} (hv : resW P σ r = some v) :
    ∃ x, v.rel X.E β x ∧ (readRes a.tmps r).run P w = .ok x w := by
  cases r with
  | tmp t => simp only [resW, Option.some.injEq] at hv; subst hv; exact ⟨_, h.tmps t, rfl⟩
  | cell p ty =>
    simp only [resW] at hv
    split at hv
    · rename_i q n h1 h2 h3
      split at hv
      · rename_i blk hblk
        split at hv
        · rename_i hlen
          cases hv
          have ht := h.tmps p
          rw [asPtr_eq h1] at ht
          obtain ⟨b, hb, hx⟩ := ht
          obtain ⟨b', k1, k2, k3, k4⟩ := h.mem _ _ hblk
          rw [hb] at k1; cases k1
          obtain ⟨vs, r1, r2⟩ := loadCells_ok (P := P) k4 q.2 n 0 #[] [] (by simpa using hlen) trivial
          refine ⟨.agg vs, ⟨vs, rfl, by simpa using r2⟩, ?_⟩
          simp only [readRes, hx, asAddr, loadVar, loadCells, Sem.run_bind, Sem.run_pure, tyAgg_ok h2, tySize_ok h3, Result.andThen_ok, if_true, r1]
        · cases hv
      · cases hv
    · rename_i q n h1 h2 h3
      split at hv
      · rename_i blk hblk
        split at hv
        · rename_i l hl
          cases hv
          have ht := h.tmps p
          rw [asPtr_eq h1] at ht
          obtain ⟨b, hb, hx⟩ := ht
          obtain ⟨b', k1, k2, k3, k4⟩ := h.mem _ _ hblk
          rw [hb] at k1; cases k1
          obtain ⟨y, hy, hr⟩ := k4 q.2 _ hl
          refine ⟨y, hr, ?_⟩
          simp only [readRes, hx, asAddr, loadVar, Sem.run_bind, Sem.run_pure, tyAgg_ok h2, Result.andThen_ok, Bool.false_eq_true, if_false, run_load, hy]
        · cases hv
      · cases hv
    · cases hv
theorem resWs_ok {D : Dx} {σ : St} {β : Bm} {a : Act} {w : World} (h : RepB X D β (view σ) a w) : ∀ {rs : List ResultVar} {vs : List V}, resWs P σ rs = some vs →
    ∃ xs, All2 (V.rel X.E β) vs xs ∧ (rs.mapM (readRes a.tmps)).run P w = .ok xs w
  | [], vs, hv => by simp [resWs] at hv; subst hv; exact ⟨[], trivial, rfl⟩
  | r :: rs, vs, hv => by
    unfold resWs at hv
    split at hv
    · rename_i v vs' h1 h2
      cases hv
      obtain ⟨x, hx, hrun⟩ := resW_ok h h1
      obtain ⟨xs, hxs, hruns⟩ := resWs_ok h h2
      refine ⟨x :: xs, ⟨hx, hxs⟩, ?_⟩
      simp only [List.mapM_cons, Sem.run_bind, hrun, Result.andThen_ok, hruns]
      rfl
    · cases hv
theorem resV_ok {D : Dx} {σ : St} {β : Bm} {a : Act} {w : World} (h : RepB X D β (view σ) a w) {fn : Func} {v : V} (hv : resV P fn σ = some v) :
    ∃ x, v.rel X.E β x ∧ (results fn a.tmps).run P w = .ok x w := by
  have e : ∀ xs, (fn.results.toList.mapM (readRes a.tmps)).run P w = .ok xs w →
      (results fn a.tmps).run P w = .ok (if h : xs.toArray.size = 1 then xs.toArray[0] else .tuple xs.toArray) w := by
    intro xs hxs
    have e1 : results fn a.tmps = (do let vs ← fn.results.mapM (readRes a.tmps); pure (if h : vs.size = 1 then vs[0] else .tuple vs)) := by
      unfold results
      congr 2
    rw [e1, Array.mapM_eq_mapM_toList]
    simp only [Sem.run_bind, Sem.run_map, hxs, Result.andThen_ok]
    rfl
  unfold resV at hv
  split at hv
  · rename_i v' h1
    cases hv
    obtain ⟨xs, hxs, hrun⟩ := resWs_ok h h1
    cases xs with
    | nil => exact hxs.elim
    | cons x xs =>
      cases xs with
      | nil => exact ⟨x, hxs.1, by rw [e _ hrun]; rfl⟩
      | cons _ _ => exact hxs.2.elim
  · rename_i vs hne h1
    split at hv
    · rename_i ws hws
      cases hv
      obtain ⟨xs, hxs, hrun⟩ := resWs_ok h h1
      refine ⟨.tuple xs.toArray, ⟨_, rfl, allW_ok hws hxs⟩, ?_⟩
      rw [e _ hrun]
      have hlen := hxs.length
      have : ¬ xs.toArray.size = 1 := by
        intro h2
        cases vs with
        | nil => simp at hlen h2; omega
        | cons v vs =>
          cases vs with
          | nil => exact hne v rfl
          | cons _ _ => simp at hlen h2; omega
      rw [dif_neg this]
    · cases hv
  · cases hv

/-- two ends that a truth among the arguments parts, each a number known: one number, of that truth -/
def mergeBy (pc : Pc) (e : Ex) : List (Pc × V) → Option (List (Pc × V))
  | [(p1, v1), (p2, v2)] => match asIntE v1, asIntE v2 with
    | some a, some b => match asLit a.2, asLit b.2 with
      | some m, some n => if kindEq a.1 b.1 && within pc.rng e 0 1 then
          (match truth p1 e, truth p2 e with
          | some true, some false => some [(pc, .val (.one (.int a.1 (mkAdd (.lit n) (mkMul e (.lit (m - n)))))))]
          | some false, some true => some [(pc, .val (.one (.int a.1 (mkAdd (.lit m) (mkMul e (.lit (n - m)))))))]
          | _, _ => none) else none
      | _, _ => none
    | _, _ => none
  | _ => none
theorem mergeBy_ok {E : Env} {pc : Pc} (hp : PcOk E.i pc) {e : Ex} {l r : List (Pc × V)} (h : mergeBy pc e l = some r) :
    ∃ q, r = [q] ∧ PcOk E.i q.1 ∧ ∀ p ∈ l, PcOk E.i p.1 → ∀ β x, p.2.rel E β x → q.2.rel E β x := by
  unfold mergeBy at h
  split at h
  · rename_i p1 v1 p2 v2
    split at h
    · rename_i a b h1 h2
      have h1 := asIntE_eq h1
      have h2 := asIntE_eq h2
      subst h1; subst h2
      split at h
      · rename_i m n h3 h4
        have h3 := asLit_eq h3
        have h4 := asLit_eq h4
        split at h
        · rename_i hc
          simp only [Bool.and_eq_true] at hc
          have hk := kindEq_eq hc.1
          have hw := within_ok hp.rng hc.2
          split at h
          · rename_i t1 t2
            cases h
            refine ⟨_, rfl, hp, fun p hpm hpp β x hx => ?_⟩
            simp only [List.mem_cons, List.not_mem_nil, or_false] at hpm
            rcases hpm with rfl | rfl
            · have ht := truth_ok hpp _ _ t1
              have : den E.i e = 1 := by unfold tr at ht; simp at ht; omega
              simp only [V.rel, W.rel, L.rel, h3, den] at hx
              simp only [V.rel, W.rel, L.rel, mkAdd_ok, mkMul_ok, den, this, hx]
              congr 1; omega
            · have ht := truth_ok hpp _ _ t2
              have : den E.i e = 0 := by unfold tr at ht; simp at ht; omega
              simp only [V.rel, W.rel, L.rel, h4, den] at hx
              simp only [V.rel, W.rel, L.rel, mkAdd_ok, mkMul_ok, den, this, hx, hk]
              congr 1; omega
          · rename_i t1 t2
            cases h
            refine ⟨_, rfl, hp, fun p hpm hpp β x hx => ?_⟩
            simp only [List.mem_cons, List.not_mem_nil, or_false] at hpm
            rcases hpm with rfl | rfl
            · have ht := truth_ok hpp _ _ t1
              have : den E.i e = 0 := by unfold tr at ht; simp at ht; omega
              simp only [V.rel, W.rel, L.rel, h3, den] at hx
              simp only [V.rel, W.rel, L.rel, mkAdd_ok, mkMul_ok, den, this, hx]
              congr 1; omega
            · have ht := truth_ok hpp _ _ t2
              have : den E.i e = 1 := by unfold tr at ht; simp at ht; omega
              simp only [V.rel, W.rel, L.rel, h4, den] at hx
              simp only [V.rel, W.rel, L.rel, mkAdd_ok, mkMul_ok, den, this, hx, hk]
              congr 1; omega
          · cases h
        · cases h
      · cases h
    · cases h
  · cases h
def merged (pc : Pc) (l : List (Pc × V)) : List V → List (Pc × V)
  | [] => l
  | v :: vs => match asBoolE v with
    | some e => (match mergeBy pc e l with
      | some r => r
      | none => merged pc l vs)
    | none => merged pc l vs
theorem merged_ok {E : Env} {pc : Pc} (hp : PcOk E.i pc) {l : List (Pc × V)} {p : Pc × V} (hpm : p ∈ l) (hpp : PcOk E.i p.1) : ∀ vs, ∃ q ∈ merged pc l vs, PcOk E.i q.1 ∧ ∀ β x, p.2.rel E β x → q.2.rel E β x
  | [] => ⟨p, hpm, hpp, fun _ _ h => h⟩
  | v :: vs => by
    unfold merged
    split
    · split
      · rename_i r hr
        obtain ⟨q, rfl, h1, h2⟩ := mergeBy_ok hp hr
        exact ⟨q, List.mem_singleton.2 rfl, h1, h2 p hpm hpp⟩
      · exact merged_ok hp hpm hpp vs
    · exact merged_ok hp hpm hpp vs

def noneB (σ : Out) : Bool := match σ with | .exit _ => false | _ => true
/-- what can be one number alone is that number -/
def normL (pc : Pc) : L → L
  | .int k e => match asLit e with
    | some _ => .int k e
    | none => match iv pc.rng e with
      | some p => if p.1 = p.2 then .int k (.lit p.1) else .int k e
      | none => .int k e
  | .bool e => match asLit e with
    | some _ => .bool e
    | none => match truth pc e with
      | some true => .bool (.lit 1)
      | some false => .bool (.lit 0)
      | none => .bool e
  | l => l
def normV (pc : Pc) : V → V
  | .val (.one l) => .val (.one (normL pc l))
  | v => v
theorem normL_ok {E : Env} {pc : Pc} (hp : PcOk E.i pc) {β : Bm} (l : L) (x : Value) (h : l.rel E β x) : (normL pc l).rel E β x := by
  unfold normL
  split
  · split
    · exact h
    · split
      · rename_i p hpv
        split
        · rename_i e1
          have := iv_ok hp.rng _ _ hpv
          simp only [L.rel, den] at h ⊢
          rw [h]; congr 1; omega
        · exact h
      · exact h
  · split
    · exact h
    · split
      · rename_i ht
        have := truth_ok hp _ _ ht
        simp only [L.rel, den] at h ⊢
        rw [h, this]; rfl
      · rename_i ht
        have := truth_ok hp _ _ ht
        simp only [L.rel, den] at h ⊢
        rw [h, this]; rfl
      · exact h
  · exact h
theorem normV_ok {E : Env} {pc : Pc} (hp : PcOk E.i pc) {β : Bm} (v : V) (x : Value) (h : v.rel E β x) : (normV pc v).rel E β x := by
  unfold normV
  split
  · exact normL_ok hp _ _ h
  · exact h
theorem normVs_ok {E : Env} {pc : Pc} (hp : PcOk E.i pc) {β : Bm} : ∀ {l : List V} {xs : List Value}, All2 (V.rel E β) l xs → All2 (V.rel E β) (l.map (normV pc)) xs
  | [], [], _ => trivial
  | _ :: _, _ :: _, h => ⟨normV_ok hp _ _ h.1, normVs_ok hp h.2⟩
  | [], _ :: _, h => h.elim
  | _ :: _, [], h => h.elim
noncomputable def evBody (P : Program) (G : List (Nat × List L)) (spec : Handler) (fuel : Nat) (call : Handler) (f : FuncId) (args : List V) (pc : Pc) : Option (List (Pc × V)) :=
  match spec f args pc with
    | some r => some r
    | none => match P.funcs[f]? with
      | none => none
      | some fn => match fn.body with
        | none => none
        | some c => if args.all V.flat && Nat.ble args.length fn.ntmps then
          (match evC P G call fn.ntmps fuel c pc ⟨args ++ List.replicate (fn.ntmps - args.length) (.val (.one .junk)), G.map fun g => ⟨g.2, false⟩⟩ with
          | none => none
          | some l => match collect (fun q => if noneB q.2.2 then (match resV P fn q.2.1 with | some v => if v.flat then some [(q.1, v)] else none | none => none) else none) l with
            | some r => some (merged pc r args)
            | none => none) else none
noncomputable def evFn (P : Program) (G : List (Nat × List L)) (spec : Handler) (fuel : Nat) : Nat → Handler
  | 0, _, _, _ => none
  | d + 1, f, args, pc => evBody P G spec fuel (evFn P G spec fuel d) f (args.map (normV pc)) pc

def nodupG : List (Nat × List L) → Bool
  | [] => true
  | g :: gs => gs.all (fun h => !Nat.beq g.1 h.1) && nodupG gs
theorem nodupG_ok : ∀ {G : List (Nat × List L)}, nodupG G = true → ∀ (i j : Nat) (g h : Nat × List L), G[i]? = some g → G[j]? = some h → g.1 = h.1 → i = j
  | [], _, i, _, g, _, hg, _, _ => by simp at hg
  | x :: xs, hn, i, j, g, h, hg, hh, e => by
    simp only [nodupG, Bool.and_eq_true, List.all_eq_true] at hn
    cases i with
    | zero =>
      cases j with
      | zero => rfl
      | succ j =>
        simp at hg hh; subst hg
        have := hn.1 h (List.mem_of_getElem? hh)
        rw [e] at this; simp at this
    | succ i =>
      cases j with
      | zero =>
        simp at hg hh; subst hh
        have := hn.1 g (List.mem_of_getElem? hg)
        rw [e] at this; simp at this
      | succ j =>
        simp at hg hh
        rw [nodupG_ok hn.2 i j g h hg hh e]

theorem evBody_ok {E : Env} {G : List (Nat × List L)} (hG : nodupG G = true) {spec : Handler} (hspec : CallOk P E G spec) {fuel : Nat} {call : Handler} (ih : CallOk P E G call) : CallOk P E G (evBody P G spec fuel call) := by
    intro f args pc l h hp
    unfold evBody at h
    split at h
    · rename_i r hr
      cases h
      exact hspec f args pc l hr hp
    · split at h
      · cases h
      · rename_i fn hfn
        split at h
        · cases h
        · rename_i c hc
          split at h
          · rename_i hchk
            simp only [Bool.and_eq_true] at hchk
            have hle := Nat.le_of_ble_eq_true hchk.2
            split at h
            · cases h
            · rename_i l0 h0
              let X : Cx := { E := E, G := G, n := fn.ntmps }
              obtain ⟨q, hqm, hqp, hqn, hqw⟩ := evC_ok (X := X) ih c pc _ l0 h0 hp (by show (args ++ List.replicate (fn.ntmps - args.length) _).length = fn.ntmps; simp; omega)
              split at h
              case h_2 => cases h
              rename_i r hr
              cases h
              obtain ⟨ys, hy, hys⟩ := collect_ok hr q hqm
              split at hy
              · rename_i hout
                split at hy
                · rename_i v hv
                  split at hy
                  · rename_i hvf
                    cases hy
                    obtain ⟨qm, hqmm, hqmp, hqmr⟩ := merged_ok hp (hys _ (List.mem_singleton.2 rfl)) hqp args
                    refine ⟨qm, hqmm, hqmp, fun xs w hxs hglob => ?_⟩
                    refine calls_of_wp hfn hc ?_
                    have hlen := hxs.length
                    have hR : Rep X ⟨w.heap.size, w⟩ (view ⟨args ++ List.replicate (fn.ntmps - args.length) (.val (.one .junk)), G.map fun g => ⟨g.2, false⟩⟩)
                        { tmps := xs.toArray ++ Array.replicate (fn.ntmps - xs.toArray.size) undef, defers := [] } w := by
                      refine ⟨Below.refl _ _, fun i => (G[i]?).map (·.1), ?_, fun t => ?_, rfl, fun id blk hb => ?_, fun id b hb => ?_, fun i j b hi hj => ?_, fun i g hg => ?_, Nat.le_refl _⟩
                      · show (xs.toArray ++ Array.replicate (fn.ntmps - xs.toArray.size) undef).size = fn.ntmps
                        simp; omega
                      · simp only [view, lget_eq, List.getD_eq_getElem?_getD, Array.getD_eq_getD_getElem?]
                        by_cases ht : t < args.length
                        · obtain ⟨y, hy, hr⟩ := hxs.get t _ (List.getElem?_eq_getElem ht)
                          have hax : args.all V.flat = true := hchk.1
                          have hfl := List.all_eq_true.1 hax _ (List.getElem_mem ht)
                          rw [List.getElem?_append_left ht, List.getElem?_eq_getElem ht, Array.getElem?_append_left (by simp; omega)]
                          have : xs.toArray[t]? = some y := by simpa using hy
                          rw [this]
                          exact V.rel_flat hfl hr
                        · rw [List.getElem?_append_right (by omega)]
                          have : (List.replicate (fn.ntmps - args.length) (V.val (.one .junk)))[t - args.length]?.getD (.val (.one .junk)) = .val (.one .junk) := by
                            rw [List.getElem?_replicate]; split <;> rfl
                          rw [this]; trivial
                      · simp only [view, List.getElem?_map] at hb
                        cases hg : G[id]? with
                        | none => rw [hg] at hb; cases hb
                        | some g =>
                          rw [hg] at hb; cases hb
                          obtain ⟨h1, h2⟩ := hglob id g hg
                          refine ⟨g.1, rfl, h1, (fun h => by cases h), fun j l hl => ?_⟩
                          obtain ⟨x, hx, hr⟩ := h2 j l hl
                          exact ⟨x, hx, L.rel_mono (fun _ _ h => by cases h) _ _ hr⟩
                      · simp only [view, List.getElem?_map]
                        cases hg : G[id]? with
                        | none => rw [hg] at hb; cases hb
                        | some g => exact ⟨_, rfl⟩
                      · cases hg : G[i]? with
                        | none => rw [hg] at hi; cases hi
                        | some g =>
                          cases hh : G[j]? with
                          | none => rw [hh] at hj; cases hj
                          | some g' =>
                            rw [hg] at hi; rw [hh] at hj
                            cases hi
                            simp only [Option.map_some, Option.some.injEq] at hj
                            exact nodupG_ok hG i j g g' hg hh hj.symm
                      · obtain ⟨h1, h2⟩ := hglob i g hg
                        exact ⟨(by show (G[i]?).map _ = _; rw [show G[i]? = some g from hg]; rfl), h1, h2⟩
                    refine hqw _ _ _ w hR (fun a' w' hR' => ?_)
                    obtain ⟨hbel, β, hB⟩ := hR'
                    obtain ⟨x, hx, hres⟩ := resV_ok hB hv
                    have fin : a'.defers = [] ∧ ∃ v', (results fn a'.tmps).run P w' = .ok v' w' ∧ ∃ x, Ending.returned v' = .returned x ∧ qm.2.rel E noB x ∧ Below w.heap.size w w' :=
                      ⟨hB.defers, x, hres, x, rfl, hqmr _ _ (V.rel_flat hvf hx), hbel⟩
                    revert hout
                    generalize q.2.2 = out
                    cases out with
                    | normal => exact fun _ => fin
                    | ret => exact fun _ => fin
                    | exit id => exact fun h => by cases h
                  · cases hy
                · cases hy
              · cases hy
          · cases h
theorem evFn_ok {E : Env} {G : List (Nat × List L)} (hG : nodupG G = true) {spec : Handler} (hspec : CallOk P E G spec) {fuel : Nat} : ∀ d, CallOk P E G (evFn P G spec fuel d)
  | 0 => fun f args pc l h => by cases h
  | d + 1 => by
    intro f args pc l h hp
    obtain ⟨p, hpm, hpp, hC⟩ := evBody_ok hG hspec (evFn_ok hG hspec (fuel := fuel) d) f (args.map (normV pc)) pc l h hp
    exact ⟨p, hpm, hpp, fun xs w hxs hg => hC xs w (normVs_ok hp hxs) hg⟩
end
end Go.Proofs.YtachmoamlalimaaDoorSx
namespace Go.Proofs.YtachmoamlalimaaDoorSx
open Go Go.RowKit

def noSpec : Handler := fun _ _ _ => none
theorem noSpec_ok (P : Program) (E : Env) (G : List (Nat × List L)) : CallOk P E G noSpec := fun _ _ _ _ h => by cases h

def isTrue (v : V) : Bool := match v with
  | .val (.one (.bool (.lit n))) => tr n
  | _ => false
noncomputable def saysTrue (P : Program) (G : List (Nat × List L)) (fuel d : Nat) (f : FuncId) (args : List V) (pc : Pc) : Bool :=
  match evFn P G noSpec fuel d f args pc with
  | some l => l.all (fun p => isTrue p.2)
  | none => false
theorem isTrue_ok {E : Env} {β : Bm} {v : V} (h : isTrue v = true) {x : Value} (hx : v.rel E β x) : x = .bool true := by
  unfold isTrue at h
  split at h
  · simp only [V.rel, W.rel, L.rel, den] at hx; rw [hx, h]
  · cases h
theorem true_of_says {P : Program} {G : List (Nat × List L)} {fuel d : Nat} {f : FuncId} {args : List V} {pc : Pc} (h : saysTrue P G fuel d f args pc = true) (hG : nodupG G = true)
    (E : Env) (hp : PcOk E.i pc) (xs : List Value) (hx : All2 (V.rel E noB) args xs) (w : World) (hg : GlobOk E G w) :
    Calls P f xs.toArray w fun e w' => e = .returned (.bool true) ∧ Below w.heap.size w w' := by
  unfold saysTrue at h
  split at h
  · rename_i l hl
    obtain ⟨p, hpm, hpp, hC⟩ := evFn_ok hG (noSpec_ok P E G) d f args pc l hl hp
    refine (hC xs w hx hg).mono ?_
    rintro e w' ⟨x, rfl, hr, hb⟩
    rw [isTrue_ok (List.all_eq_true.1 h p hpm) hr]
    exact ⟨rfl, hb⟩
  · cases h

/-- symbols that are numbers alone -/
def envOf (l : List Int) : Env := ⟨fun i => l.getD i 0, fun _ => .nilIface, fun _ => rfl⟩
/-- the numbers lie in their ranges -/
def inRng : Rng → List Int → Prop
  | [], _ => True
  | _ :: _, [] => False
  | p :: r, n :: l => (p.1 ≤ n ∧ n ≤ p.2) ∧ inRng r l
theorem pc_of {r : Rng} {l : List Int} (h : inRng r l) : PcOk (envOf l).i ⟨r, [], []⟩ := by
  refine ⟨fun i p hp => ?_, (fun f hf => by cases hf), (fun f hf => by cases hf)⟩
  have key : ∀ (r : Rng) (l : List Int), inRng r l → ∀ (i : Nat) (p : Int × Int), r[i]? = some p → p.1 ≤ l.getD i 0 ∧ l.getD i 0 ≤ p.2 := by
    intro r
    induction r with
    | nil => intro l _ i p hp; simp at hp
    | cons q r ih =>
      intro l hl i p hp
      cases l with
      | nil => exact hl.elim
      | cons n l =>
        cases i with
        | zero => simp at hp; subst hp; simpa using hl.1
        | succ i => simpa using ih l hl.2 i p (by simpa using hp)
  exact key r l h i p hp
end Go.Proofs.YtachmoamlalimaaDoorSx
