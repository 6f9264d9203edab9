/- The heap engine, second half: conditions of a text from its states, contracts, a row's arguments and its answer. It is about no program. -/
import Derived.Test.YtcecdpebapkfaaaHxOne
import Derived.ProofKit
import Derived.Deep.Slices
import Derived.Deep.Fields
import Derived.ChangeSame
import Derived.SizedLaws
namespace Go.Proofs.YtcecdpebapkfaaaHx
open Go Go.RowKit
section
variable {P : Program} {X : Cx}

def PathsOk (P : Program) (X : Cx) (op : Op) (s : S) (args : List V) (l : List Path) : Prop := ∃ p ∈ l, holdsP p.g ∧ (holdsP p.need → EffOk P X op s args p.e)
def one1 (v : V) : List Path := [⟨none, none, ⟨v, [], []⟩⟩]
theorem one1_ok {op : Op} {s : S} {args : List V} {v : V} (h : Gives P op args v) : PathsOk P X op s args (one1 v) := ⟨_, List.mem_singleton.2 rfl, trivial, fun _ => h.eff s⟩
def oneE (e : Eff) : List Path := [⟨none, none, e⟩]
theorem oneE_ok {op : Op} {s : S} {args : List V} {e : Eff} (h : EffOk P X op s args e) : PathsOk P X op s args (oneE e) := ⟨_, List.mem_singleton.2 rfl, trivial, fun _ => h⟩
def oneN (n : Prop) (e : Eff) : List Path := [⟨none, some n, e⟩]
theorem oneN_ok {op : Op} {s : S} {args : List V} {n : Prop} {e : Eff} (h : n → EffOk P X op s args e) : PathsOk P X op s args (oneN n e) := ⟨_, List.mem_singleton.2 rfl, trivial, h⟩

/-- a value without its condition; what that needs -/
def bare : V → V × Option Bool
  | .opt c v => (v, some c)
  | v => (v, none)
theorem bare_ok {v : V} {β : Bm} {x : Value} (h : v.rel β x) (hc : ∀ c, (bare v).2 = some c → c = true) : (bare v).1.rel β x := by
  cases v with
  | opt c v => exact h (hc c rfl)
  | _ => exact h
def needP (k : Bool) (c : Bool) : Option Bool → Option Prop
  | none => none
  | some d => some (c = k → d = true)
theorem needP_ok {k c : Bool} {o : Option Bool} (h : holdsP (needP k c o)) (hc : c = k) : ∀ d, o = some d → d = true := by
  intro d hd
  subst hd
  exact h hc
def and2 : Option Prop → Option Prop → Option Prop
  | none, x => x
  | some p, none => some p
  | some p, some q => some (p ∧ q)
theorem and2_ok {a b : Option Prop} (h : holdsP (and2 a b)) : holdsP a ∧ holdsP b := by
  cases a with
  | none => exact ⟨trivial, h⟩
  | some p => cases b with
    | none => exact ⟨h, trivial⟩
    | some q => exact h
def mergeV (c : Bool) (a b : V) : Option V := match a, b with
  | .val (.one (.bool x)), .val (.one (.bool y)) => some (.val (.one (.bool (.tm (bif c then x.v else y.v)))))
  | .val (.one (.int k x)), .val (.one (.int k' y)) => if kindEq k k' then some (.val (.one (.int k (.tm (bif c then x.v else y.v))))) else none
  | _, _ => none
theorem mergeV_ok {c : Bool} {a b r : V} (h : mergeV c a b = some r) {β : Bm} {x : Value} (ha : c = true → a.rel β x) (hb : c = false → b.rel β x) : r.rel β x := by
  unfold mergeV at h
  split at h
  · cases h
    cases c
    · exact hb rfl
    · exact ha rfl
  · split at h
    · rename_i hk
      have := kindEq_eq hk
      subst this
      cases h
      cases c
      · exact hb rfl
      · exact ha rfl
    · cases h
  · cases h
def pPick (args : List V) : Option (List Path) := match args with
  | [.val (.one (.bool (.lit true))), a, _] => some (one1 a)
  | [.val (.one (.bool (.lit false))), _, b] => some (one1 b)
  | [.val (.one (.bool (.tm c))), a, b] => match mergeV c (bare a).1 (bare b).1 with
    | some r => some [⟨none, and2 (needP true c (bare a).2) (needP false c (bare b).2), ⟨r, [], []⟩⟩]
    | none => some [⟨some (c = true), none, ⟨a, [], []⟩⟩, ⟨some (c = false), none, ⟨b, [], []⟩⟩]
  | _ => none
theorem pPick_ok {c a b : Operand} {s : S} {args : List V} {l : List Path} (h : pPick args = some l) : PathsOk P X (.pick c a b) s args l := by
  unfold pPick at h
  split at h
  · cases h; exact one1_ok (gives_pick c a b (.lit true) _ _)
  · cases h; exact one1_ok (gives_pick c a b (.lit false) _ _)
  · rename_i e va vb
    split at h
    · rename_i r hr
      cases h
      refine ⟨_, List.mem_singleton.2 rfl, trivial, fun hn => ?_⟩
      obtain ⟨h1, h2⟩ := and2_ok hn
      refine Gives.eff (v := r) (fun β ρ o ho hx => ?_) s
      obtain ⟨x, hx1, hx2⟩ := gives_pick (P := P) c a b (.tm e) va vb β ρ o ho hx
      refine ⟨x, mergeV_ok hr (fun hc => ?_) (fun hc => ?_), hx2⟩
      · simp only [B.v, hc, if_true] at hx1
        exact bare_ok hx1 (needP_ok h1 hc)
      · simp only [B.v, hc, Bool.false_eq_true, if_false] at hx1
        exact bare_ok hx1 (needP_ok h2 hc)
    · cases h
      cases he : e with
      | true => exact ⟨_, List.mem_cons_self, rfl, fun _ => by have := gives_pick (P := P) c a b (.tm true) va vb; exact this.eff s⟩
      | false => exact ⟨_, List.mem_cons_of_mem _ List.mem_cons_self, rfl, fun _ => by have := gives_pick (P := P) c a b (.tm false) va vb; exact this.eff s⟩
  · cases h
def lays (P : Program) (t : TypeId) (cells : List L) : Option (List Seg) := match layOf P 16 t with
  | some l => mkSegs l cells
  | none => none
theorem lays_ok {t : TypeId} {cells : List L} {segs : List Seg} (h : lays P t cells = some segs) : ∃ lay, mkSegs lay cells = some segs := by
  unfold lays at h; split at h
  · exact ⟨_, h⟩
  · cases h
def pAlloc (P : Program) (t : TypeId) (fresh : Nat) (args : List V) : Option (List Path) := match args, zeroW P t with
  | [], some zw => match lays P t zw.cells with
    | some segs => some (oneE ⟨.val (.one (.ptr fresh 0)), [], [(fresh, some (.mem true segs))]⟩)
    | none => none
  | _, _ => none
theorem pAlloc_ok {t : TypeId} {s : S} {fresh : Nat} (hf : s.blk fresh = none) {args : List V} {l : List Path} (h : pAlloc P t fresh args = some l) : PathsOk P X (.alloc t) s args l := by
  unfold pAlloc at h
  split at h
  · rename_i zw hz
    split at h
    · rename_i segs hs
      cases h
      obtain ⟨lay, hl⟩ := lays_ok hs
      exact oneE_ok ((makes_alloc hz hl).eff hf)
    · cases h
  · cases h
def pBox (P : Program) (t : TypeId) (fresh : Nat) (args : List V) : Option (List Path) := match args with
  | [.val w] => if w.firm then (match lays P t w.cells with
    | some segs => some (oneE ⟨.val (.one (.ptr fresh 0)), [], [(fresh, some (.mem true segs))]⟩)
    | none => none) else none
  | _ => none
theorem pBox_ok {t : TypeId} {x : Operand} {s : S} {fresh : Nat} (hf : s.blk fresh = none) {args : List V} {l : List Path} (h : pBox P t fresh args = some l) : PathsOk P X (.box t x) s args l := by
  unfold pBox at h
  split at h
  · split at h
    · rename_i hfm
      split at h
      · rename_i segs hs
        cases h
        obtain ⟨lay, hl⟩ := lays_ok hs
        exact oneE_ok ((makes_box hfm hl).eff hf)
      · cases h
    · cases h
  · cases h
def pBuild (P : Program) (t : TypeId) (parts : Array (Nat × Operand)) (args : List V) : Option (List Path) := match allW args with
  | some ws => if Nat.beq ws.length parts.toList.length then (match buildW P t ((parts.toList.map (·.1)).zip ws) with
    | some ls => some (one1 (.val (.agg ls)))
    | none => none) else none
  | none => none
theorem pBuild_ok {t : TypeId} {parts : Array (Nat × Operand)} {s : S} {args : List V} {l : List Path} (h : pBuild P t parts args = some l) : PathsOk P X (.build t parts) s args l := by
  unfold pBuild at h
  split at h
  · rename_i ws hws
    split at h
    · rename_i hlen
      split at h
      · rename_i ls hls
        cases h
        exact one1_ok (gives_build hws (Nat.eq_of_beq_eq_true hlen) hls)
      · cases h
    · cases h
  · cases h
def pSlice1 (P : Program) (t : TypeId) (len : Nat) (parts : List (Nat × Operand)) (fresh : Nat) (args : List V) : Option (List Path) := match len, parts, args, P.underlying t with
  | 1, [(0, _)], [.val w], some (.slice el) => match tySize P el, zeroW P el, colsOf w.cells with
    | some n, some zw, some cols => if Nat.blt 0 n && Nat.ble n 64 && w.firm && Nat.beq w.cells.length n && Nat.beq zw.cells.length n then some (oneE ⟨.val (.one (.vec fresh)), [], [(fresh, some (.vec true el 1 cols))]⟩) else none
    | _, _, _ => none
  | _, _, _, _ => none
theorem pSlice1_ok {t : TypeId} {len : Nat} {parts : Array (Nat × Operand)} {s : S} {fresh : Nat} (hf : s.blk fresh = none) {args : List V} {l : List Path} (h : pSlice1 P t len parts.toList fresh args = some l) : PathsOk P X (.buildSlice t len parts) s args l := by
  unfold pSlice1 at h
  split at h
  · rename_i x w el hp ht
    split at h
    · rename_i n zw cols hn hz hc
      split at h
      · rename_i hb
        simp only [Bool.and_eq_true] at hb
        cases h
        have e : parts = #[(0, x)] := by apply Array.ext'; rw [hp]
        subst e
        exact oneE_ok ((makes_slice1 ht hn (by simpa using hb.1.1.1.1) (Nat.le_of_ble_eq_true hb.1.1.1.2) ⟨zw, hz, Nat.eq_of_beq_eq_true hb.2⟩ hb.1.1.2 (Nat.eq_of_beq_eq_true hb.1.2) hc).eff hf)
      · cases h
    · cases h
  · cases h
def pLoad (P : Program) (t : TypeId) (s : S) (args : List V) : Option (List Path) := match args with
  | [.val (.one (.ptr id off))] => (match s.blk id with
    | some (.mem _own segs) => (match tyAgg P t, tySize P t with
      | some true, some n => (match loadN segs off n with | some ls => some (oneE ⟨.val (.agg ls), [id], []⟩) | none => none)
      | some false, _ => (match loadCell segs off with | some l => some (oneE ⟨.val (.one l), [id], []⟩) | none => none)
      | _, _ => none)
    | _ => none)
  | [.val (.one l)] => (match eltId l with
    | some id => (match s.blk id with
      | some ob => (match eltOf ob l with
        | some (i, off, n, cols) => (match tyAgg P t, tySize P t with
          | some true, some m => if Nat.ble (off + m) cols.length then some (oneN (i < n) ⟨.val (.agg (((eltLs cols i).drop off).take m)), [id], []⟩) else none
          | some false, _ => (match (eltLs cols i)[off]? with | some r => some (oneN (i < n) ⟨.val (.one r), [id], []⟩) | none => none)
          | _, _ => none)
        | none => none)
      | none => none)
    | none => none)
  | _ => none
theorem pLoad_ok {t : TypeId} {x : Operand} {s : S} {args : List V} {l : List Path} (h : pLoad P t s args = some l) : PathsOk P X (.load t x) s args l := by
  unfold pLoad at h
  split at h
  · split at h
    · rename_i own segs hb
      split at h
      · rename_i n h1 h2
        split at h
        · rename_i ls hl; cases h; exact oneE_ok ((reads_load h1 h2 hl).eff hb)
        · cases h
      · rename_i h1
        split at h
        · rename_i r hl; cases h; exact oneE_ok ((reads_load1 h1 hl).eff hb)
        · cases h
      · cases h
    · cases h
  · split at h
    · rename_i id hid
      split at h
      · rename_i ob hb
        split at h
        · rename_i i off n cols he
          split at h
          · rename_i m h1 h2
            split at h
            · rename_i hm; cases h; exact oneN_ok fun hi => (reads_elt hid he h1 h2 (Nat.le_of_ble_eq_true hm) hi).eff hb
            · cases h
          · rename_i h1
            split at h
            · rename_i r hr; cases h; exact oneN_ok fun hi => (reads_elt1 hid he h1 hr hi).eff hb
            · cases h
          · cases h
        · cases h
      · cases h
    · cases h
  · cases h
def pStore (P : Program) (t : TypeId) (s : S) (args : List V) : Option (List Path) := match args with
  | [.val (.one (.ptr id off)), .val w] => (match s.blk id, tySize P t with
    | some (.mem true segs), some n => if w.firm && Nat.beq w.cells.length n && Nat.ble off (segsSize segs) then (match storeS segs off w.cells with
      | some segs' => some (oneE ⟨undefV, [], [(id, some (.mem true segs'))]⟩)
      | none => none) else none
    | _, _ => none)
  | [.val (.one (.elt id base stride i off)), .val wv] => (match s.blk id, tySize P t with
    | some (.mem true segs), some m => if wv.firm && Nat.beq wv.cells.length m && !wv.cells.isEmpty then (match storeEltN segs base stride i off wv.cells, rowAt segs base with
      | some segs', some (n, _) => some (oneN (i < n) ⟨undefV, [], [(id, some (.mem true segs'))]⟩)
      | _, _ => none) else none
    | _, _ => none)
  | [.val (.one (.lel id stride i off)), .val wv] => (match s.blk id, tySize P t with
    | some (.vec true e n cols), some m => if wv.firm && Nat.beq wv.cells.length m && !wv.cells.isEmpty && Nat.beq stride cols.length then (match putCols i cols off wv.cells with
      | some cols' => some (oneN (i < n) ⟨undefV, [], [(id, some (.vec true e n cols'))]⟩)
      | none => none) else none
    | _, _ => none)
  | _ => none
theorem pStore_ok {t : TypeId} {x y : Operand} {s : S} {args : List V} {l : List Path} (h : pStore P t s args = some l) : PathsOk P X (.store t x y) s args l := by
  unfold pStore at h
  split at h
  · split at h
    · rename_i segs n hb hn
      split at h
      · rename_i hc
        simp only [Bool.and_eq_true] at hc
        split at h
        · rename_i segs' hs
          cases h
          exact oneE_ok ((writes_cells hn hc.1.1 (Nat.eq_of_beq_eq_true hc.1.2) hs (Nat.le_of_ble_eq_true hc.2)).eff hb)
        · cases h
      · cases h
    · cases h
  · split at h
    · rename_i segs m hb hn
      split at h
      · rename_i hf
        simp only [Bool.and_eq_true, Bool.not_eq_true', List.isEmpty_eq_false_iff] at hf
        split at h
        · rename_i segs' n cols hs hr
          cases h
          exact oneN_ok fun hi => (writes_elt hn hf.1.1 (Nat.eq_of_beq_eq_true hf.1.2) hs hf.2 hr hi).eff hb
        · cases h
      · cases h
    · cases h
  · split at h
    · rename_i e n cols m hb hn
      split at h
      · rename_i hf
        simp only [Bool.and_eq_true, Bool.not_eq_true', List.isEmpty_eq_false_iff] at hf
        have := Nat.eq_of_beq_eq_true hf.2
        subst this
        split at h
        · rename_i cols' hc
          cases h
          exact oneN_ok fun hi => (writes_lel hn hf.1.1.1 (Nat.eq_of_beq_eq_true hf.1.1.2) hc hf.1.2 hi).eff hb
        · cases h
      · cases h
    · cases h
  · cases h
def pNil (args : List V) : Option (List Path) := match args with
  | [.val (.one l)] => if isPtr l then some (one1 (.val (.one l))) else none
  | _ => none
theorem pNil_ok {x : Operand} {s : S} {args : List V} {l : List Path} (h : pNil args = some l) : PathsOk P X (.nilCheck x) s args l := by
  unfold pNil at h
  split at h
  · split at h
    · rename_i hp; cases h; exact one1_ok (gives_nilCheck x hp)
    · cases h
  · cases h
def ptrTy (P : Program) (t : TypeId) : Bool := match P.underlying t with
  | some (.pointer _) => true
  | _ => false
theorem ptrTy_ok {t : TypeId} (h : ptrTy P t = true) : P.underlying t = some (.pointer (P.pointee t)) := by
  unfold ptrTy at h
  split at h
  · rename_i u hu; simp [Program.pointee, hu]
  · cases h
def pBin (P : Program) (op : BinOp) (t : TypeId) (args : List V) : Option (List Path) := match args with
  | [.val (.one (.cst (.pointer none))), .val (.one (.cst (.pointer none)))] => if ptrTy P t then (match op with
    | .eql => some (one1 (.val (.one (.bool (.lit true)))))
    | .neq => some (one1 (.val (.one (.bool (.lit false)))))
    | _ => none) else none
  | [.val (.one l), .val (.one (.cst (.pointer none)))] => if isPtr l && ptrTy P t then (match op with
    | .eql => some (one1 (.val (.one (.bool (.lit false)))))
    | .neq => some (one1 (.val (.one (.bool (.lit true)))))
    | _ => none) else none
  | [.val a, .val b] => (match binV P op t a b with | some r => some (one1 (.val (.one r))) | none => none)
  | _ => none
theorem pBin_ok {op : BinOp} {t yt : TypeId} {x y : Operand} {s : S} {args : List V} {l : List Path} (h : pBin P op t args = some l) : PathsOk P X (.binOp op t x y yt) s args l := by
  unfold pBin at h
  split at h
  · split at h
    · rename_i ht
      split at h
      · cases h; exact one1_ok (gives_nilNil (ptrTy_ok ht) (.inl ⟨rfl, rfl⟩))
      · cases h; exact one1_ok (gives_nilNil (ptrTy_ok ht) (.inr ⟨rfl, rfl⟩))
      · cases h
    · cases h
  · split at h
    · rename_i hc
      simp only [Bool.and_eq_true] at hc
      split at h
      · cases h; exact one1_ok (gives_ptrNil hc.1 (ptrTy_ok hc.2) (.inl ⟨rfl, rfl⟩))
      · cases h; exact one1_ok (gives_ptrNil hc.1 (ptrTy_ok hc.2) (.inr ⟨rfl, rfl⟩))
      · cases h
    · cases h
  · split at h
    · rename_i r hr; cases h; exact one1_ok (gives_bin hr)
    · cases h
  · cases h
def pUn (op : UnOp) (args : List V) : Option (List Path) := match op, args with
  | .not, [.val (.one (.bool e))] => some (one1 (.val (.one (.bool (mkNot e)))))
  | .neg, [.val (.one (.int k e))] => some (one1 (.val (.one (.int k (e.map fun n => k.wrap (0 - n))))))
  | .xor, [.val (.one (.int k e))] => some (one1 (.val (.one (.int k (e.map fun n => Go.bits .xor k (if k.signed then -1 else k.max) n)))))
  | _, _ => none
theorem pUn_ok {op : UnOp} {t : TypeId} {x : Operand} {s : S} {args : List V} {l : List Path} (h : pUn op args = some l) : PathsOk P X (.unOp op t x) s args l := by
  unfold pUn at h
  split at h
  · cases h; exact one1_ok (gives_not _)
  · cases h; exact one1_ok (gives_neg _ _)
  · cases h; exact one1_ok (gives_compl _ _)
  · cases h
def pConv (P : Program) (src d : TypeId) (args : List V) : Option (List Path) := match args, P.underlying src, P.underlying d with
  | [.val (.one (.int _ e))], some _, some (.int k) => some (one1 (.val (.one (.int k (e.map k.wrap)))))
  | _, _, _ => none
theorem pConv_ok {src d : TypeId} {x : Operand} {s : S} {args : List V} {l : List Path} (h : pConv P src d args = some l) : PathsOk P X (.convert src d x) s args l := by
  unfold pConv at h
  split at h
  · rename_i h1 h2; cases h; exact one1_ok (gives_convert h1 h2)
  · cases h
def pFieldAddr (P : Program) (t : TypeId) (f : Nat) (args : List V) : Option (List Path) := match args, P.underlying t with
  | [.val (.one l)], some (.struct fs) => (match fs[f]? with
    | some g => (match tySize P g.type, moveL g.offset l with
      | some (_ + 1), some l' => some (one1 (.val (.one l')))
      | _, _ => none)
    | none => none)
  | _, _ => none
theorem pFieldAddr_ok {t : TypeId} {x : Operand} {f : Nat} {s : S} {args : List V} {l : List Path} (h : pFieldAddr P t f args = some l) : PathsOk P X (.fieldAddr t x f) s args l := by
  unfold pFieldAddr at h
  split at h
  · rename_i h1
    split at h
    · rename_i g hg
      split at h
      · rename_i n l' hn hl; cases h; exact one1_ok (gives_fieldAddr h1 hg hn (by omega) hl)
      · cases h
    · cases h
  · cases h
def pField (P : Program) (t : TypeId) (f : Nat) (args : List V) : Option (List Path) := match args, P.underlying t with
  | [.val (.agg ls)], some (.struct fs) => (match fs[f]? with
    | some g => (match partW P g.type ls g.offset with
      | some w => some (one1 (.val w))
      | none => none)
    | none => none)
  | _, _ => none
theorem pField_ok {t : TypeId} {x : Operand} {f : Nat} {s : S} {args : List V} {l : List Path} (h : pField P t f args = some l) : PathsOk P X (.field t x f) s args l := by
  unfold pField at h
  split at h
  · rename_i h1
    split at h
    · rename_i g hg
      split at h
      · rename_i w hw; cases h; exact one1_ok (gives_field h1 hg hw)
      · cases h
    · cases h
  · cases h
def pIndexAddr (P : Program) (t : TypeId) (s : S) (args : List V) : Option (List Path) := match args, P.underlying t with
  | [.val (.one (.ptr id off)), .val (.one (.int _ e))], some (.array len el) => (match tySize P el with
    | some n => (match e with
      | .lit c => if 0 ≤ c ∧ c < len then some (one1 (.val (.one (.ptr id (off + c.toNat * n))))) else none
      | .tm c => some (oneN (0 ≤ c ∧ c < len) ⟨.val (.one (.elt id off n c.toNat 0)), [], []⟩))
    | none => none)
  | [.val (.one (.vec id)), .val (.one (.int _ e))], some (.slice el) => (match tySize P el, s.blk id with
    | some n, some (.vec _ _ m _) => some (oneN (0 ≤ e.v ∧ e.v < m) ⟨.val (.one (.lel id n e.v.toNat 0)), [id], []⟩)
    | _, _ => none)
  | _, _ => none
theorem pIndexAddr_ok {t : TypeId} {x i : Operand} {s : S} {args : List V} {l : List Path} (h : pIndexAddr P t s args = some l) : PathsOk P X (.indexAddr t x i) s args l := by
  unfold pIndexAddr at h
  split at h
  · rename_i h1
    split at h
    · rename_i n hn
      split at h
      · split at h
        · rename_i hc; cases h; exact one1_ok (gives_indexArr h1 hn hc.1 hc.2 (.inr rfl))
        · cases h
      · cases h; exact oneN_ok fun hc => (gives_indexArr (e := .tm _) h1 hn hc.1 hc.2 (.inl rfl)).eff s
    · cases h
  · rename_i h1
    split at h
    · rename_i n own ety m cols hn hb
      cases h; exact oneN_ok fun hc => (reads_indexVec h1 hn hc.1 hc.2).eff hb
    · cases h
  · cases h
def pIndex (P : Program) (t : TypeId) (args : List V) : Option (List Path) := match args, P.underlying t with
  | [.val (.agg ls), .val (.one (.int _ (.lit c)))], some (.array len el) => (match tySize P el with
    | some n => if 0 ≤ c ∧ c < len then (match partW P el ls (c.toNat * n) with
      | some w => some (one1 (.val w))
      | none => none) else none
    | none => none)
  | _, _ => none
theorem pIndex_ok {t : TypeId} {x i : Operand} {s : S} {args : List V} {l : List Path} (h : pIndex P t args = some l) : PathsOk P X (.index t x i) s args l := by
  unfold pIndex at h
  split at h
  · rename_i h1
    split at h
    · rename_i n hn
      split at h
      · rename_i hc
        split at h
        · rename_i w hw; cases h; exact one1_ok (gives_index (e := .lit _) h1 hn hc.1 hc.2 hw)
        · cases h
      · cases h
    · cases h
  · cases h
def pLookup (P : Program) (t : TypeId) (ok : Bool) (s : S) (args : List V) : Option (List Path) := match args, P.underlying t with
  | [.val (.one (.map id)), .val (.one (.int key e))], some (.map kt et) => (match P.underlying kt, s.blk id, zeroW P et with
    | some (.int _), some (.mp _ key' agg has cols), some zw => if kindEq key key' then (match kW agg cols e.v with
      | some w => some [⟨some (has e.v = true), none, ⟨if ok then .tup [w, .one (.bool (.lit true))] else .val w, [id], []⟩⟩, ⟨some (has e.v = false), none, ⟨if ok then .tup [zw, .one (.bool (.lit false))] else .val zw, [id], []⟩⟩]
      | none => none) else none
    | _, _, _ => none)
  | _, _ => none
theorem pLookup_ok {t : TypeId} {x i : Operand} {ok : Bool} {s : S} {args : List V} {l : List Path} (h : pLookup P t ok s args = some l) : PathsOk P X (.lookup t x i ok) s args l := by
  unfold pLookup at h
  split at h
  · rename_i id key e kt et h1
    split at h
    · rename_i own key' agg has cols zw h2 hb hz
      split at h
      · rename_i hk
        have := kindEq_eq hk
        subst this
        split at h
        · rename_i w hw
          cases h
          have key : has e.v = true ∨ has e.v = false := by cases has e.v <;> simp
          rcases key with hh | hh
          · exact ⟨_, List.mem_cons_self, hh, fun _ => (reads_lookup h1 h2 hh hw).eff hb⟩
          · exact ⟨_, List.mem_cons_of_mem _ List.mem_cons_self, hh, fun _ => (reads_lookupNo h1 h2 hh hz).eff hb⟩
        · cases h
      · cases h
    · cases h
  · cases h
def pUpdate (P : Program) (t : TypeId) (s : S) (args : List V) : Option (List Path) := match args, P.underlying t with
  | [.val (.one (.map id)), .val (.one (.int key e)), .val w], some (.map kt _) => (match P.underlying kt, s.blk id with
    | some (.int _), some (.mp true key' agg has cols) => if kindEq key key' then (match kCells agg w with
      | some ls => (match kPuts e.v cols ls with
        | some cols' => some (oneE ⟨undefV, [], [(id, some (.mp true key' agg (putK has e.v true) cols'))]⟩)
        | none => none)
      | none => none) else none
    | _, _ => none)
  | _, _ => none
theorem pUpdate_ok {t : TypeId} {m i v : Operand} {s : S} {args : List V} {l : List Path} (h : pUpdate P t s args = some l) : PathsOk P X (.mapUpdate t m i v) s args l := by
  unfold pUpdate at h
  split at h
  · rename_i id key e w kt et h1
    split at h
    · rename_i kk key' agg has cols h2 hb
      split at h
      · rename_i hk
        have := kindEq_eq hk
        subst this
        split at h
        · rename_i ls hc
          split at h
          · rename_i cols' hp; cases h; exact oneE_ok ((writes_mapUpdate h1 h2 hc hp).eff hb)
          · cases h
        · cases h
      · cases h
    · cases h
  · cases h
/-- the columns of a map's elements -/
def zeroKCol (P : Program) (t : TypeId) : Option KCol := match P.underlying t with
  | some .bool => some (.bools fun _ => false)
  | some (.int k) => some (.ints k fun _ => 0)
  | _ => none
def zeroKCols (P : Program) : List TypeId → Option (List KCol)
  | [] => some []
  | t :: ts => match zeroKCol P t, zeroKCols P ts with
    | some c, some cs => some (c :: cs)
    | _, _ => none
def mapCols (P : Program) (et : TypeId) : Option (Bool × List KCol) := match P.underlying et with
  | some (.struct fs) => (match zeroKCols P (fs.toList.map (·.type)) with | some cs => some (true, cs) | none => none)
  | _ => (match zeroKCol P et with | some c => some (false, [c]) | none => none)
def pMakeMap (P : Program) (t : TypeId) (fresh : Nat) (args : List V) : Option (List Path) := match args, P.underlying t with
  | [], some (.map kt et) => (match P.underlying kt, mapCols P et with
    | some (.int key), some (agg, cols) => some (oneE ⟨.val (.one (.map fresh)), [], [(fresh, some (.mp true key agg (fun _ => false) cols))]⟩)
    | _, _ => none)
  | _, _ => none
theorem pMakeMap_ok {t : TypeId} {s : S} {fresh : Nat} (hf : s.blk fresh = none) {args : List V} {l : List Path} (h : pMakeMap P t fresh args = some l) : PathsOk P X (.makeMap t none) s args l := by
  unfold pMakeMap at h
  split at h
  · split at h
    · cases h; exact oneE_ok ((makes_map _ _ _).eff hf)
    · cases h
  · cases h
def pExtract (i : Nat) (args : List V) : Option (List Path) := match args with
  | [.tup ws] => (match ws[i]? with | some w => some (one1 (.val w)) | none => none)
  | _ => none
theorem pExtract_ok {x : Operand} {i : Nat} {s : S} {args : List V} {l : List Path} (h : pExtract i args = some l) : PathsOk P X (.extract x i) s args l := by
  unfold pExtract at h
  split at h
  · split at h
    · rename_i w hw; cases h; exact one1_ok (gives_extract hw)
    · cases h
  · cases h
def pLen (P : Program) (ats : Array TypeId) (s : S) (args : List V) : Option (List Path) := match args, ats[0]? with
  | [.val (.one (.vec id))], some t => (match P.underlying t, s.blk id with
    | some (.slice _), some (.vec _ _ n _) => some (oneE ⟨.val (.one (.int .i64 (.tm n))), [id], []⟩)
    | _, _ => none)
  | [.val (.one (.cst (.slice none 0 0)))], some t => (match P.underlying t with
    | some (.slice _) => some (one1 (.val (.one (.int .i64 (.lit 0)))))
    | _ => none)
  | _, _ => none
theorem pLen_ok {x : Operand} {ats : Array TypeId} {s : S} {args : List V} {l : List Path} (h : pLen P ats s args = some l) : PathsOk P X (.call { callee := .builtin .len, args := #[x], argTypes := ats }) s args l := by
  unfold pLen at h
  split at h
  · rename_i h0
    split at h
    · rename_i h1 hb; cases h; exact oneE_ok ((reads_len h0 h1).eff hb)
    · cases h
  · rename_i h0
    split at h
    · rename_i h1; cases h; exact one1_ok (gives_lenNil h0 h1)
    · cases h
  · cases h
def pDelete (P : Program) (ats : Array TypeId) (s : S) (args : List V) : Option (List Path) := match args, ats[0]? with
  | [.val (.one (.map id)), .val (.one (.int key e))], some t => (match P.underlying t with
    | some (.map kt _) => (match P.underlying kt, s.blk id with
      | some (.int _), some (.mp true key' agg has cols) => if kindEq key key' then some (oneE ⟨.tup [], [], [(id, some (.mp true key' agg (putK has e.v false) cols))]⟩) else none
      | _, _ => none)
    | _ => none)
  | _, _ => none
theorem pDelete_ok {x y : Operand} {ats : Array TypeId} {s : S} {args : List V} {l : List Path} (h : pDelete P ats s args = some l) : PathsOk P X (.call { callee := .builtin .delete, args := #[x, y], argTypes := ats }) s args l := by
  unfold pDelete at h
  split at h
  · rename_i id key e t h0
    split at h
    · rename_i kt et h1
      split at h
      · rename_i kk key' agg has cols h2 hs
        split at h
        · rename_i hk
          have := kindEq_eq hk
          subst this
          cases h
          refine oneE_ok ?_
          intro o ho hd D s2 a w hR hargs _ hwr K Q hK
          have hR' := hR
          obtain ⟨hc, β, hb, hB⟩ := hR'
          have hs2 : s2.blk id = some (.mp true key agg has cols) := by rw [hwr (id, some (.mp true key agg (putK has e.v false) cols)) (by simp), hs]
          obtain ⟨p, k1, k2, k3⟩ := hB.mem id _ hs2
          obtain ⟨w', r1, r2, r3, r4, r5, r6, r7⟩ := writes_delete (m := x) (i := y) h0 h1 h2 β a.eval o w p ho (hargs β hB) k1 k2
          unfold Oper.wp
          rw [r1]
          have hBw := hB.write (w' := w') hs2 rfl rfl k1 (by omega) (fun k _ hk => r6 k hk) (Nat.le_trans hc.base hc.size) r7
          refine hK _ _ ⟨hc.later r2 r3 r4 (by omega) (fun k hk hF => r6 k fun hf => ?_), β, hb, ?_⟩
          · rcases k3 rfl k hf with h1 | h1
            · omega
            · exact hF h1
          · exact hBw.put hd (v := .tup []) ⟨#[], rfl, trivial⟩
        · cases h
      · cases h
    · cases h
  · cases h
def pAppend (P : Program) (ats : Array TypeId) (s : S) (fresh : Nat) (args : List V) : Option (List Path) := match args, ats.toList with
  | [.val (.one (.vec id)), .val (.one (.vec id2))], [t, t'] => if Nat.beq t t' && !Nat.beq id id2 then (match appTy P t, s.blk id, s.blk id2 with
    | some (e, stride, bytes), some (.vec true e' n cols), some (.vec _ _ m cols2) => if Nat.beq e e' && Nat.beq cols.length stride && cols2.all Col.plain then (match appCols n cols cols2 with
      | some cols' => some (oneN ((n + m) * bytes ≤ 140737488355328) ⟨.val (.one (.vec fresh)), [id, id2], [(id, some .gone), (fresh, some (.vec true e (n + m) cols'))]⟩)
      | none => none) else none
    | _, _, _ => none) else none
  | [.val (.one (.cst (.slice none 0 0))), .val (.one (.vec id2))], [t, t'] => if Nat.beq t t' then (match appTy P t, s.blk id2 with
    | some (e, stride, bytes), some (.vec _ _ m cols2) => if Nat.beq cols2.length stride && cols2.all Col.plain then (match appCols 0 cols2 cols2 with
      | some cols' => some (oneN ((0 + m) * bytes ≤ 140737488355328) ⟨.val (.one (.vec fresh)), [id2], [(fresh, some (.vec true e (0 + m) cols'))]⟩)
      | none => none) else none
    | _, _ => none) else none
  | _, _ => none
theorem pAppend_ok {x y : Operand} {ats : Array TypeId} {s : S} {fresh : Nat} (hf : s.blk fresh = none) {args : List V} {l : List Path} (h : pAppend P ats s fresh args = some l) : PathsOk P X (.call { callee := .builtin .append, args := #[x, y], argTypes := ats }) s args l := by
  unfold pAppend at h
  split at h
  · rename_i id id2 t t' hats
    split at h
    · rename_i hc
      simp only [Bool.and_eq_true, Bool.not_eq_true'] at hc
      have := Nat.eq_of_beq_eq_true hc.1
      subst this
      have hne : id ≠ id2 := fun e => by
        have h2 := hc.2
        rw [e, Nat.beq_refl] at h2; cases h2
      have e0 : ats = #[t, t] := by apply Array.ext'; rw [hats]
      subst e0
      split at h
      · rename_i e stride bytes e' n cols own2 e2 m cols2 h1 h2 h3
        split at h
        · rename_i hb
          simp only [Bool.and_eq_true] at hb
          have := Nat.eq_of_beq_eq_true hb.1.1
          subst this
          split at h
          · rename_i cols' ha
            cases h
            exact oneN_ok fun hn => eff_append h1 (Nat.eq_of_beq_eq_true hb.1.2) h2 h3 hne hf ha hb.2 hn
          · cases h
        · cases h
      · cases h
    · cases h
  · rename_i id2 t t' hats
    split at h
    · rename_i hc
      have := Nat.eq_of_beq_eq_true hc
      subst this
      have e0 : ats = #[t, t] := by apply Array.ext'; rw [hats]
      subst e0
      split at h
      · rename_i e stride bytes own2 e2 m cols2 h1 h3
        split at h
        · rename_i hb
          simp only [Bool.and_eq_true] at hb
          split at h
          · rename_i cols' ha
            cases h
            exact oneN_ok fun hn => eff_appendNil h1 (Nat.eq_of_beq_eq_true hb.1) h3 hf ha hb.2 hn
          · cases h
        · cases h
      · cases h
    · cases h
  · cases h

/-- a function of the program's own -/
abbrev CallH := FuncId → List V → S → Nat → Option (List Path)
def CallHOk (P : Program) (X : Cx) (call : CallH) : Prop :=
  ∀ f args s fresh l, call f args s fresh = some l → (∀ i, fresh ≤ i → s.blk i = none) → ∀ (c : Call) (x : Operand), c.callee = .value x → PathsOk P X (.call c) s (.val (.one (.cst (.func (.func f) #[] #[]))) :: args) l
def effs (P : Program) (call : CallH) (op : Op) (args : List V) (s : S) (fresh : Nat) : Option (List Path) := match op with
  | .move _ => (match args with | [v] => some (one1 v) | _ => none)
  | .assign _ => (match args with | [v] => some (one1 v) | _ => none)
  | .pick _ _ _ => pPick args
  | .alloc t => pAlloc P t fresh args
  | .box t _ => pBox P t fresh args
  | .build t parts => pBuild P t parts args
  | .buildSlice t len parts => pSlice1 P t len parts.toList fresh args
  | .load t _ => pLoad P t s args
  | .store t _ _ => pStore P t s args
  | .nilCheck _ => pNil args
  | .binOp o t _ _ _ => pBin P o t args
  | .unOp o _ _ => pUn o args
  | .convert a d _ => pConv P a d args
  | .fieldAddr t _ f => pFieldAddr P t f args
  | .field t _ f => pField P t f args
  | .indexAddr t _ _ => pIndexAddr P t s args
  | .index t _ _ => pIndex P t args
  | .lookup t _ _ ok => pLookup P t ok s args
  | .mapUpdate t _ _ _ => pUpdate P t s args
  | .makeMap t none => pMakeMap P t fresh args
  | .extract _ i => pExtract i args
  | .call c => (match c.callee with
    | .builtin .len => (match c.args.toList with | [_] => pLen P c.argTypes s args | _ => none)
    | .builtin .delete => (match c.args.toList with | [_, _] => pDelete P c.argTypes s args | _ => none)
    | .builtin .append => (match c.args.toList with | [_, _] => pAppend P c.argTypes s fresh args | _ => none)
    | .value _ => (match args with
      | .val (.one (.cst (.func (.func f) a b))) :: as => if a.size = 0 ∧ b.size = 0 then call f as s fresh else none
      | _ => none)
    | _ => none)
  | _ => none
theorem effs_ok {call : CallH} (hcall : CallHOk P X call) {op : Op} {args : List V} {s : S} {fresh : Nat} (hf : ∀ i, fresh ≤ i → s.blk i = none) {l : List Path} (h : effs P call op args s fresh = some l) : PathsOk P X op s args l := by
  have hf0 := hf fresh (Nat.le_refl _)
  unfold effs at h
  split at h
  · split at h
    · cases h; exact one1_ok (gives_move _ _)
    · cases h
  · split at h
    · cases h; exact one1_ok (gives_assign _ _)
    · cases h
  · exact pPick_ok h
  · exact pAlloc_ok hf0 h
  · exact pBox_ok hf0 h
  · exact pBuild_ok h
  · exact pSlice1_ok hf0 h
  · exact pLoad_ok h
  · exact pStore_ok h
  · exact pNil_ok h
  · exact pBin_ok h
  · exact pUn_ok h
  · exact pConv_ok h
  · exact pFieldAddr_ok h
  · exact pField_ok h
  · exact pIndexAddr_ok h
  · exact pIndex_ok h
  · exact pLookup_ok h
  · exact pUpdate_ok h
  · exact pMakeMap_ok hf0 h
  · exact pExtract_ok h
  · rename_i c
    obtain ⟨callee, cargs, ats⟩ := c
    simp only at h
    split at h
    · split at h
      · rename_i x hx
        have e : cargs = #[x] := by apply Array.ext'; rw [hx]
        subst e; exact pLen_ok h
      · cases h
    · split at h
      · rename_i x y hx
        have e : cargs = #[x, y] := by apply Array.ext'; rw [hx]
        subst e; exact pDelete_ok h
      · cases h
    · split at h
      · rename_i x y hx
        have e : cargs = #[x, y] := by apply Array.ext'; rw [hx]
        subst e; exact pAppend_ok hf0 h
      · cases h
    · rename_i x
      split at h
      · split at h
        · rename_i f a b as hab
          have e1 : a = #[] := Array.eq_empty_of_size_eq_zero hab.1
          have e2 : b = #[] := Array.eq_empty_of_size_eq_zero hab.2
          subst e1; subst e2
          exact hcall _ _ _ _ _ h hf _ x rfl
        · cases h
      · cases h
    · cases h
  · cases h
end
end Go.Proofs.YtcecdpebapkfaaaHx
namespace Go.Proofs.YtcecdpebapkfaaaHx
open Go Go.RowKit

/-- the place n of a list, by the recursors themselves: the kernel reads it faster so -/
noncomputable def lget {α : Type} (d : α) (l : List α) : Nat → α :=
  List.rec (motive := fun _ => Nat → α) (fun _ => d) (fun x _ ih n => Nat.rec (motive := fun _ => α) x (fun m _ => ih m) n) l
theorem lget_eq {α : Type} (d : α) : ∀ (l : List α) (n : Nat), lget d l n = l.getD n d
  | [], n => by simp [lget]
  | x :: xs, 0 => rfl
  | x :: xs, n + 1 => by
    have := lget_eq d xs n
    simp only [List.getD_cons_succ, ← this]; rfl
noncomputable def lset {α : Type} (v : α) (l : List α) : Nat → List α :=
  List.rec (motive := fun _ => Nat → List α) (fun _ => []) (fun x xs ih n => Nat.rec (motive := fun _ => List α) (v :: xs) (fun m _ => x :: ih m) n) l
theorem lset_eq {α : Type} (v : α) : ∀ (l : List α) (n : Nat), lset v l n = l.set n v
  | [], n => by simp [lset]
  | x :: xs, 0 => rfl
  | x :: xs, n + 1 => by
    have := lset_eq v xs n
    simp only [List.set_cons_succ, ← this]; rfl

/-- a state: the frame; the objects -/
structure St where
  tmps : List V
  mem : List Ob
noncomputable def view (σ : St) : S := ⟨fun t => lget (.val (.one .junk)) σ.tmps t, fun id => σ.mem[id]?⟩

noncomputable def appT (n : Nat) (ts : List V) (d : Option Tmp) (v : V) : Option (List V) :=
  match d with
  | none => some ts
  | some t => if Nat.blt t n then some (lset v ts t) else none
def app1 (ms : List Ob) (id : Nat) (b : Ob) : Option (List Ob) := match ms[id]? with
  | some _ => some (ms.set id b)
  | none => if Nat.beq id ms.length then some (ms ++ [b]) else none
/-- the writes of one operation, each to a place of its own -/
def appM : List Ob → List (Nat × Option Ob) → Option (List Ob)
  | ms, [] => some ms
  | ms, (id, some b) :: r => if r.any (fun q => Nat.beq q.1 id) then none else (match app1 ms id b with
    | some ms' => appM ms' r
    | none => none)
  | _, (_, none) :: _ => none
theorem appT_ok {n : Nat} {ts ts' : List V} (hf : ts.length = n) {d : Option Tmp} {v : V} (h : appT n ts d v = some ts') :
    (fun t => lget (.val (.one .junk)) ts' t) = upd (fun t => lget (.val (.one .junk)) ts t) (look (wrT d v)) ∧ ts'.length = n ∧ ∀ t, d = some t → t < n := by
  unfold appT at h
  split at h
  · cases h; exact ⟨rfl, hf, fun t h => by cases h⟩
  · rename_i t
    split at h
    · rename_i hlt
      cases h
      have hlt' : t < n := by simpa [Nat.blt_eq] using hlt
      refine ⟨?_, by rw [lset_eq]; simpa using hf, fun t' h => by cases h; exact hlt'⟩
      funext u
      simp only [upd_one, wrT, lget_eq, lset_eq, List.getD_eq_getElem?_getD, List.getElem?_set]
      by_cases e1 : u = t
      · subst e1; rw [← hf] at hlt'; simp [hlt']
      · have : ¬ t = u := fun h => e1 h.symm
        simp [e1, this]
    · cases h
theorem app1_ok {ms ms' : List Ob} {id : Nat} {b : Ob} (h : app1 ms id b = some ms') : (fun j => ms'[j]?) = upd (fun j : Nat => ms[j]?) (look [(id, some b)]) ∧ ms.length ≤ ms'.length := by
  unfold app1 at h
  split at h
  · rename_i b0 hb0
    cases h
    have hlt : id < ms.length := (List.getElem?_eq_some_iff.1 hb0).1
    refine ⟨?_, by simp⟩
    funext j
    simp only [upd_one, List.getElem?_set]
    by_cases e1 : j = id
    · subst e1; simp [hlt]
    · have : ¬ id = j := fun h => e1 h.symm
      simp [e1, this]
  · split at h
    · rename_i hid
      cases h
      have := Nat.eq_of_beq_eq_true hid
      subst this
      refine ⟨?_, by simp⟩
      funext j
      simp only [upd_one, List.getElem?_append]
      by_cases e1 : j < ms.length
      · have : ¬ j = ms.length := by omega
        simp [e1, this]
      · by_cases e2 : j = ms.length
        · subst e2; simp
        · rw [if_neg e1, if_neg e2, List.getElem?_eq_none (by simp; omega), List.getElem?_eq_none (by omega)]
    · cases h
theorem look_none {α : Type} {l : List (Nat × α)} {x : Nat} (h : l.any (fun q => Nat.beq q.1 x) = false) : look l x = none := by
  cases hl : look l x with
  | none => rfl
  | some v =>
    obtain ⟨p, hp, he⟩ := look_mem hl
    rw [List.any_eq_false] at h
    exact absurd (by rw [he]; exact Nat.beq_refl x) (h p hp)
theorem appM_ok : ∀ {wr : List (Nat × Option Ob)} {ms ms' : List Ob}, appM ms wr = some ms' → (fun id => ms'[id]?) = upd (fun id : Nat => ms[id]?) (look wr) ∧ ms.length ≤ ms'.length
  | [], ms, ms', h => by cases h; exact ⟨rfl, Nat.le_refl _⟩
  | (id, some b) :: r, ms, ms', h => by
    unfold appM at h
    split at h
    · cases h
    · rename_i hn
      simp only [Bool.not_eq_true] at hn
      split at h
      · rename_i m1 h1
        obtain ⟨k1, k2⟩ := app1_ok h1
        obtain ⟨k3, k4⟩ := appM_ok h
        refine ⟨?_, Nat.le_trans k2 k4⟩
        rw [k3, k1]
        funext j
        by_cases e : id = j
        · subst e
          simp only [upd, look, look_none hn, Nat.beq_refl, if_true]
        · have hb : Nat.beq id j = false := by
            cases hb : Nat.beq id j
            · rfl
            · exact absurd (Nat.eq_of_beq_eq_true hb) e
          simp only [upd, look, hb, Bool.false_eq_true, if_false]
      · cases h
  | (_, none) :: _, _, _, h => by cases h

/-! ### ways as statements -/
def impP : Option Prop → Prop → Prop
  | none, x => x
  | some g, x => g → x
def andP : Option Prop → Prop → Prop
  | none, x => x
  | some n, x => n ∧ x
theorem impP_ok {g : Option Prop} {x : Prop} (h : impP g x) (hg : holdsP g) : x := by
  cases g with
  | none => exact h
  | some p => exact h hg
theorem andP_ok {n : Option Prop} {x : Prop} (h : andP n x) : holdsP n ∧ x := by
  cases n with
  | none => exact ⟨trivial, h⟩
  | some p => exact h
def allP (K : Eff → Prop) : List Path → Prop
  | [] => True
  | [p] => impP p.g (andP p.need (K p.e))
  | p :: q :: r => impP p.g (andP p.need (K p.e)) ∧ allP K (q :: r)
theorem allP_mem {K : Eff → Prop} : ∀ {l : List Path}, allP K l → ∀ p ∈ l, impP p.g (andP p.need (K p.e))
  | [], _, p, hp => by cases hp
  | [q], h, p, hp => by rw [List.mem_singleton.1 hp]; exact h
  | q :: q2 :: r, h, p, hp => by
    rcases List.mem_cons.1 hp with rfl | hp
    · exact h.1
    · exact allP_mem h.2 p hp
/-- truths that are known on a way: of slots -/
abbrev Kn := List (Nat × Bool)
def KnOk (kn : Kn) (s : S) : Prop := ∀ p ∈ kn, ∃ e : B, s.tmp p.1 = .val (.one (.bool e)) ∧ e.v = p.2
def knAt : Kn → Nat → Option Bool
  | [], _ => none
  | p :: r, t => if Nat.beq p.1 t then some p.2 else knAt r t
theorem knAt_ok : ∀ {kn : Kn} {s : S} {t : Nat} {b : Bool}, KnOk kn s → knAt kn t = some b → ∃ e : B, s.tmp t = .val (.one (.bool e)) ∧ e.v = b
  | p :: r, s, t, b, h, hk => by
    unfold knAt at hk
    split at hk
    · rename_i e; cases hk; rw [← Nat.eq_of_beq_eq_true e]; exact h p (by simp)
    · exact knAt_ok (fun q hq => h q (by simp [hq])) hk
def knOff (kn : Kn) (d : Option Tmp) : Kn := match d with
  | none => kn
  | some t => kn.filter fun p => !Nat.beq p.1 t
theorem knOff_ok {kn : Kn} {s : S} (h : KnOk kn s) (d : Option Tmp) (v : V) (f : Nat → Option Ob) : KnOk (knOff kn d) ⟨upd s.tmp (look (wrT d v)), f⟩ := by
  intro p hp
  cases d with
  | none => exact h p hp
  | some t =>
    simp only [knOff, List.mem_filter, Bool.not_eq_true'] at hp
    obtain ⟨e, h1, h2⟩ := h p hp.1
    refine ⟨e, ?_, h2⟩
    simp only [wrT, upd_one]
    rw [if_neg (fun e2 => by rw [e2, Nat.beq_refl] at hp; exact absurd hp.2 (by simp))]
    exact h1
/-- is an operation of a region wanted? -/
def wantedBy (ops : List Oper) (s : S) (kn : Kn) (o : Oper) : Option (List (Option Prop × Bool × Kn)) :=
  match o.guard with
  | none => some [(none, true, kn)]
  | some (j, want) => match (ops[j]?).bind (·.dst) with
    | none => none
    | some t => match knAt kn t with
      | some b => some [(none, b == want, kn)]
      | none => match s.tmp t with
        | .val (.one (.bool (.lit b))) => some [(none, b == want, kn)]
        | .val (.one (.bool (.tm c))) => some [(some (c = true), true == want, (t, true) :: kn), (some (c = false), false == want, (t, false) :: kn)]
        | .val (.one (.cst (.int _ _))) => some [(none, false, kn)]
        | _ => none
def allG (K : Bool → Kn → Prop) : List (Option Prop × Bool × Kn) → Prop
  | [] => True
  | [p] => impP p.1 (K p.2.1 p.2.2)
  | p :: q :: r => impP p.1 (K p.2.1 p.2.2) ∧ allG K (q :: r)
theorem allG_mem {K : Bool → Kn → Prop} : ∀ {l : List (Option Prop × Bool × Kn)}, allG K l → ∀ p ∈ l, impP p.1 (K p.2.1 p.2.2)
  | [], _, p, hp => by cases hp
  | [q], h, p, hp => by rw [List.mem_singleton.1 hp]; exact h
  | q :: q2 :: r, h, p, hp => by
    rcases List.mem_cons.1 hp with rfl | hp
    · exact h.1
    · exact allG_mem h.2 p hp
section
variable {P : Program} {X : Cx}
theorem wantedBy_ok {ops : Array Oper} {s : S} {kn : Kn} (hkn : KnOk kn s) {o : Oper} {l : List (Option Prop × Bool × Kn)} (h : wantedBy ops.toList s kn o = some l) :
    ∃ p ∈ l, holdsP p.1 ∧ KnOk p.2.2 s ∧ ∀ D s2 a w, Rep X D s2 a w → (∀ t ∈ o.looksAt ops, s2.tmp t = s.tmp t) → Region.wanted o (yielded ops a.tmps) = p.2.1 := by
  unfold wantedBy at h
  split at h
  · rename_i hg
    cases h
    exact ⟨_, List.mem_singleton.2 rfl, trivial, hkn, fun D s2 a w _ _ => by simp [Region.wanted, hg]⟩
  · rename_i j want hg
    split at h
    · cases h
    · rename_i t ht
      have ht' : (ops[j]?).bind (·.dst) = some t := by rw [← Array.getElem?_toList]; exact ht
      have hlook : t ∈ o.looksAt ops := by unfold Oper.looksAt; rw [hg]; simp [ht']
      have key : ∀ e, s.tmp t = .val (.one (.bool e)) → ∀ D s2 a w, Rep X D s2 a w → (∀ t ∈ o.looksAt ops, s2.tmp t = s.tmp t) → Region.wanted o (yielded ops a.tmps) = (e.v == want) := by
        intro e he D s2 a w hR hag
        obtain ⟨_, β, _, hB⟩ := hR
        have h1 := hB.tmps t
        rw [hag t hlook, he] at h1
        have h2 : a.tmps.getD t undef = .bool e.v := h1
        have h3 : a.tmps[t]? = some (.bool e.v) := by
          rw [Array.getD_eq_getD_getElem?] at h2
          cases h4 : a.tmps[t]? with
          | none => rw [h4] at h2; cases h2
          | some u => rw [h4] at h2; simp at h2; rw [h2]
        unfold Region.wanted yielded
        simp only [hg, ht', Option.bind_some, h3]
        cases e.v <;> cases want <;> rfl
      split at h
      · rename_i b hb
        cases h
        obtain ⟨e, h1, h2⟩ := knAt_ok hkn hb
        exact ⟨_, List.mem_singleton.2 rfl, trivial, hkn, fun D s2 a w hR hag => by rw [key _ h1 D s2 a w hR hag, h2]⟩
      · split at h
        · rename_i b he
          cases h
          exact ⟨_, List.mem_singleton.2 rfl, trivial, hkn, fun D s2 a w hR hag => key _ he D s2 a w hR hag⟩
        · rename_i c he
          cases h
          have hk := key _ he
          have hcc : c = true ∨ c = false := by cases c <;> simp
          have hadd : ∀ b, c = b → KnOk ((t, b) :: kn) s := fun b hb p hp => by
            rcases List.mem_cons.1 hp with rfl | hp
            · exact ⟨.tm c, he, hb⟩
            · exact hkn p hp
          rcases hcc with hc | hc
          · exact ⟨_, List.mem_cons_self, hc, hadd true hc, fun D s2 a w hR hag => by rw [hk D s2 a w hR hag]; simp only [B.v, hc]⟩
          · exact ⟨_, List.mem_cons_of_mem _ List.mem_cons_self, hc, hadd false hc, fun D s2 a w hR hag => by rw [hk D s2 a w hR hag]; simp only [B.v, hc]⟩
        · rename_i k n he
          cases h
          refine ⟨_, List.mem_singleton.2 rfl, trivial, hkn, fun D s2 a w hR hag => ?_⟩
          obtain ⟨_, β, _, hB⟩ := hR
          have h1 := hB.tmps t
          rw [hag t hlook, he] at h1
          have h2 : a.tmps.getD t undef = .int k n := h1
          unfold Region.wanted yielded
          simp only [hg, ht', Option.bind_some]
          cases h4 : a.tmps[t]? with
          | none => cases want <;> rfl
          | some u =>
            rw [Array.getD_eq_getD_getElem?, h4] at h2
            simp at h2
            subst h2
            cases want <;> rfl
        · cases h

/-! ### operands -/
def opnd (G : List (Nat × List L)) (s : S) : Operand → Option V
  | .tmp t => some (s.tmp t)
  | .const v => match ofVal v with
    | some w => some (.val w)
    | none => none
  | .global g => match G.findIdx? (fun p => Nat.beq p.1 g) with
    | some i => some (.val (.one (.ptr i 0)))
    | none => none
  | .func f => some (.val (.one (.cst (.func (.func f) #[] #[]))))
theorem opnd_ok {D : Dx} {β : Bm} {s : S} {a : Act} {w : World} (h : RepB X D β s a w) {x : Operand} {v : V} (ho : opnd X.G s x = some v) : v.rel β (a.eval x) := by
  cases x with
  | tmp t => simp only [opnd, Option.some.injEq] at ho; subst ho; exact h.tmps t
  | const u =>
    simp only [opnd] at ho
    split at ho
    · rename_i w' hw; cases ho; exact ofVal_ok hw
    · cases ho
  | global g =>
    simp only [opnd] at ho
    split at ho
    · rename_i i hi
      cases ho
      obtain ⟨hlt, hp, _⟩ := List.findIdx?_eq_some_iff_getElem.1 hi
      have := h.glob i _ (List.getElem?_eq_getElem hlt)
      rw [Nat.eq_of_beq_eq_true hp] at this
      exact ⟨g, this.1, rfl⟩
    · cases ho
  | func f => simp only [opnd, Option.some.injEq] at ho; subst ho; rfl
/-- an operand on a way -/
def opndK (G : List (Nat × List L)) (s : S) (kn : Kn) (x : Operand) : Option V := match x with
  | .tmp t => (match knAt kn t with
    | some b => some (.val (.one (.bool (.lit b))))
    | none => some (s.tmp t))
  | x => opnd G s x
theorem opndK_ok {D : Dx} {β : Bm} {s : S} {a : Act} {w : World} (h : RepB X D β s a w) {kn : Kn} (hkn : KnOk kn s) {x : Operand} {v : V} (ho : opndK X.G s kn x = some v) : v.rel β (a.eval x) := by
  unfold opndK at ho
  split at ho
  · rename_i t
    split at ho
    · rename_i b hb
      cases ho
      obtain ⟨e, h1, h2⟩ := knAt_ok hkn hb
      have h3 := h.tmps t
      rw [h1] at h3
      have h4 : a.tmps.getD t undef = .bool e.v := h3
      show a.tmps.getD t undef = .bool b
      rw [h4, h2]
    · cases ho; exact h.tmps t
  · exact opnd_ok h ho
def argsOf (G : List (Nat × List L)) (s : S) (kn : Kn) : List Operand → Option (List V)
  | [] => some []
  | x :: xs => match opndK G s kn x, argsOf G s kn xs with
    | some v, some vs => some (v :: vs)
    | _, _ => none
theorem argsOf_ok {D : Dx} {β : Bm} {s : S} {a : Act} {w : World} (h : RepB X D β s a w) {kn : Kn} : ∀ {xs : List Operand} {vs : List V}, (∀ t, Operand.tmp t ∈ xs → ∀ b, knAt kn t = some b → ∃ e : B, s.tmp t = .val (.one (.bool e)) ∧ e.v = b) → argsOf X.G s kn xs = some vs → All2 (V.rel β) vs (xs.map a.eval)
  | [], vs, _, ho => by simp [argsOf] at ho; subst ho; trivial
  | x :: xs, vs, hk, ho => by
    unfold argsOf at ho
    split at ho
    · rename_i v vs' h1 h2
      cases ho
      refine ⟨?_, argsOf_ok h (fun t ht => hk t (List.mem_cons_of_mem _ ht)) h2⟩
      unfold opndK at h1
      split at h1
      · rename_i t
        split at h1
        · rename_i b hb
          cases h1
          obtain ⟨e, q1, q2⟩ := hk t List.mem_cons_self b hb
          have h3 := h.tmps t
          rw [q1] at h3
          have h4 : a.tmps.getD t undef = .bool e.v := h3
          show a.tmps.getD t undef = .bool b
          rw [h4, q2]
        · cases h1; exact h.tmps t
      · exact opnd_ok h h1
    · cases ho
theorem argsOf_congr {s s2 : S} {kn : Kn} : ∀ {xs : List Operand}, (∀ t, Operand.tmp t ∈ xs → s2.tmp t = s.tmp t) → argsOf X.G s2 kn xs = argsOf X.G s kn xs
  | [], _ => rfl
  | x :: xs, h => by
    unfold argsOf
    rw [argsOf_congr (xs := xs) (fun t ht => h t (List.mem_cons_of_mem _ ht))]
    have : opndK X.G s2 kn x = opndK X.G s kn x := by
      cases x with
      | tmp t => simp only [opndK, h t List.mem_cons_self]
      | _ => rfl
    rw [this]

/-! ### a region -/
def wrOf (ops : Array Oper) (o : Oper) (e : Eff) : Wr V (Option Ob) := ⟨wrT o.dst e.v, e.wr, o.looksAt ops, e.rd ++ e.wr.map (·.1)⟩
/-- an operation, in whatever state agrees with the text's on what it looks at -/
def OpStep (P : Program) (X : Cx) (ops : Array Oper) (o : Oper) (s : S) (wr : Wr V (Option Ob)) : Prop :=
  ∀ D s2, Agree wr s2 s → ∀ a w, Rep X D s2 a w → ∀ (K : Act → World → Prop) (Q : Exit → Act → World → Prop), (∀ a' w', Rep X D (s2.app wr) a' w' → K a' w') →
    if Region.wanted o (yielded ops a.tmps) then o.wp P a w K Q else K (a.put o.dst undef) w
/-! an operation that may come or not, but only gives a value: its value if so -/
def bareNeeds (c : Bool) : List V → Option Prop
  | [] => none
  | v :: vs => and2 (needP true c (bare v).2) (bareNeeds c vs)
def condNeed (c : Bool) : Option Prop → Option Prop
  | none => none
  | some n => some (c = true → n)
def guardC (ops : List Oper) (s : S) (kn : Kn) (o : Oper) : Option Bool := match o.guard with
  | none => none
  | some (j, want) => match (ops[j]?).bind (·.dst) with
    | none => none
    | some t => match knAt kn t, s.tmp t with
      | none, .val (.one (.bool (.tm c))) => (match want with
        | true => some c
        | false => some (!c))
      | _, _ => none
def specOf (P : Program) (G : List (Nat × List L)) (call : CallH) (s : S) (kn : Kn) (o : Oper) (fresh : Nat) (c : Bool) : Option (Option Prop × Eff) :=
  match argsOf G s kn o.op.operands.toList with
  | none => none
  | some args => match effs P call o.op (args.map fun v => (bare v).1) s fresh with
    | some [p] => (match p.g, p.e.wr with
      | none, [] => some (and2 (bareNeeds c args) (condNeed c p.need), p.e)
      | _, _ => none)
    | _ => none
theorem guardC_ok {ops : Array Oper} {s : S} {kn : Kn} {o : Oper} {c : Bool} (h : guardC ops.toList s kn o = some c) : ∀ D s2 a w, Rep X D s2 a w → (∀ t ∈ o.looksAt ops, s2.tmp t = s.tmp t) → Region.wanted o (yielded ops a.tmps) = c := by
  unfold guardC at h
  split at h
  · cases h
  · rename_i j want hg
    split at h
    · cases h
    · rename_i t ht
      have ht' : (ops[j]?).bind (·.dst) = some t := by rw [← Array.getElem?_toList]; exact ht
      have hlook : t ∈ o.looksAt ops := by unfold Oper.looksAt; rw [hg]; simp [ht']
      split at h
      · rename_i c0 _ he
        intro D s2 a w hR hag
        obtain ⟨_, β, _, hB⟩ := hR
        have h1 := hB.tmps t
        rw [hag t hlook, he] at h1
        have h2 : a.tmps.getD t undef = .bool c0 := h1
        have h3 : a.tmps[t]? = some (.bool c0) := by
          rw [Array.getD_eq_getD_getElem?] at h2
          cases h4 : a.tmps[t]? with
          | none => rw [h4] at h2; cases h2
          | some u => rw [h4] at h2; simp at h2; rw [h2]
        unfold Region.wanted yielded
        simp only [hg, ht', Option.bind_some, h3]
        cases want <;> simp only [Option.some.injEq] at h <;> subst h <;> cases c0 <;> rfl
      · cases h
theorem bareNeeds_ok {c : Bool} : ∀ {vs : List V}, holdsP (bareNeeds c vs) → c = true → ∀ {β : Bm} {xs : List Value}, All2 (V.rel β) vs xs → All2 (V.rel β) (vs.map fun v => (bare v).1) xs
  | [], _, _, β, [], _ => trivial
  | v :: vs, h, hc, β, x :: xs, hx => by
    obtain ⟨h1, h2⟩ := and2_ok h
    exact ⟨bare_ok hx.1 (needP_ok h1 hc), bareNeeds_ok h2 hc hx.2⟩
  | [], _, _, _, _ :: _, h => h.elim
  | _ :: _, _, _, _, [], h => h.elim
theorem condNeed_ok {c : Bool} {n : Option Prop} (h : holdsP (condNeed c n)) (hc : c = true) : holdsP n := by
  cases n with
  | none => trivial
  | some p => exact h hc
/-- a slot that says less -/
theorem rep_less {D : Dx} {s : S} {a : Act} {w : World} {d : Option Tmp} {v v' : V} {f : Nat → Option Ob} (hv : ∀ β x, v.rel β x → v'.rel β x) (h : Rep X D ⟨upd s.tmp (look (wrT d v)), f⟩ a w) : Rep X D ⟨upd s.tmp (look (wrT d v')), f⟩ a w := by
  obtain ⟨hc, β, hb, hB⟩ := h
  refine ⟨hc, β, hb, { hB with tmps := fun t => ?_ }⟩
  have := hB.tmps t
  cases d with
  | none => exact this
  | some u =>
    simp only [wrT, upd_one] at this ⊢
    split
    · rename_i e; rw [if_pos e] at this; exact hv _ _ this
    · rename_i e; rw [if_neg e] at this; exact this
theorem spec_step {call : CallH} (hcall : CallHOk P X call) {ops : Array Oper} {ts : List V} {ms : List Ob} {kn : Kn} (hkn : KnOk kn (view ⟨ts, ms⟩)) {o : Oper} {c : Bool} (hg : guardC ops.toList (view ⟨ts, ms⟩) kn o = some c)
    {n : Option Prop} {e : Eff} (h : specOf P X.G call (view ⟨ts, ms⟩) kn o ms.length c = some (n, e)) (hn : holdsP n) (hd : ∀ t, o.dst = some t → t < X.n) : OpStep P X ops o (view ⟨ts, ms⟩) (wrOf ops o ⟨.opt c e.v, e.rd, []⟩) := by
  unfold specOf at h
  split at h
  · cases h
  · rename_i args hargs
    split at h
    · rename_i p hp
      split at h
      · rename_i hpg hpw
        cases h
        obtain ⟨hn1, hn2⟩ := and2_ok hn
        have hfree : ∀ i, ms.length ≤ i → (view ⟨ts, ms⟩).blk i = none := fun i hi => by simp [view, hi]
        obtain ⟨q, hqm, _, hqe⟩ := effs_ok (X := X) hcall hfree hp
        rw [List.mem_singleton.1 hqm] at hqe
        intro D s2 hag a w hR K Q hK
        rw [guardC_ok hg D s2 a w hR hag.1]
        have hlk : ∀ t, Operand.tmp t ∈ o.op.operands.toList → t ∈ o.looksAt ops := fun t ht => by
          unfold Oper.looksAt
          exact List.mem_append_left _ (List.mem_filterMap.2 ⟨.tmp t, ht, rfl⟩)
        have hst : s2.app (wrOf ops o ⟨.opt c p.e.v, p.e.rd, []⟩) = ⟨upd s2.tmp (look (wrT o.dst (.opt c p.e.v))), s2.blk⟩ := rfl
        cases hc : c with
        | true =>
          rw [if_pos rfl]
          refine hqe (condNeed_ok hn2 hc) o rfl hd D s2 a w hR (fun β hB => ?_) (fun id hid => hag.2 id (by simp [wrOf, hid])) (fun r hr => by rw [hpw] at hr; cases hr) K Q (fun a' w' hR' => hK a' w' ?_)
          · refine bareNeeds_ok hn1 hc (argsOf_ok hB (kn := kn) (fun t ht b hb => ?_) ?_)
            · rw [hag.1 t (hlk t ht)]; exact knAt_ok hkn hb
            · rw [argsOf_congr (s := view ⟨ts, ms⟩) (fun t ht => hag.1 t (hlk t ht))]
              exact hargs
          · rw [hst]
            rw [hpw] at hR'
            exact rep_less (v := p.e.v) (v' := .opt c p.e.v) (fun β x hx _ => hx) hR'
        | false =>
          simp only [Bool.false_eq_true, if_false]
          obtain ⟨hcc, β, hb, hB⟩ := hR
          refine hK _ _ ?_
          rw [hst]
          exact ⟨hcc, β, hb, hB.put hd (v := .opt c p.e.v) (fun h => by rw [hc] at h; cases h)⟩
      · cases h
    · cases h
noncomputable def runOps (P : Program) (G : List (Nat × List L)) (call : CallH) (n : Nat) (ops : Array Oper) (K : List V → List Ob → List (Wr V (Option Ob)) → Prop) : List Oper → Kn → List V → List Ob → List (Wr V (Option Ob)) → Prop
  | [], _, ts, ms, acc => K ts ms acc
  | o :: rest, kn, ts, ms, acc => match (match guardC ops.toList (view ⟨ts, ms⟩) kn o with
      | none => none
      | some c => (match specOf P G call (view ⟨ts, ms⟩) kn o ms.length c with
        | none => none
        | some q => (match appT n ts o.dst (.opt c q.2.v) with
          | none => none
          | some ts' => some (c, q, ts')))) with
    | some (c, q, ts') => andP q.1 (runOps P G call n ops K rest (knOff kn o.dst) ts' ms (acc ++ [wrOf ops o ⟨.opt c q.2.v, q.2.rd, []⟩]))
    | none => match wantedBy ops.toList (view ⟨ts, ms⟩) kn o with
      | none => False
      | some l => allG (fun want kn' => match want with
        | true => (match argsOf G (view ⟨ts, ms⟩) kn' o.op.operands.toList with
          | none => False
          | some args => (match effs P call o.op args (view ⟨ts, ms⟩) ms.length with
            | none => False
            | some ps => allP (fun e => match appT n ts o.dst e.v, appM ms e.wr with
              | some ts', some ms' => runOps P G call n ops K rest (knOff kn' o.dst) ts' ms' (acc ++ [wrOf ops o e])
              | _, _ => False) ps))
        | false => (match appT n ts o.dst undefV with
          | some ts' => runOps P G call n ops K rest (knOff kn' o.dst) ts' ms (acc ++ [wrOf ops o ⟨undefV, [], []⟩])
          | none => False)) l

theorem textSt_cons {α β : Type} (s0 : SS α β) (w : Wr α β) (ws : List (Wr α β)) : ∀ i, textSt s0 (w :: ws) (i + 1) = textSt (s0.app w) ws i
  | 0 => rfl
  | i + 1 => by
    rw [textSt, textSt_cons s0 w ws i]
    simp only [List.getElem?_cons_succ, textSt]
theorem view_free (ts : List V) (ms : List Ob) : ∀ i, ms.length ≤ i → (view ⟨ts, ms⟩).blk i = none := fun i hi => by simp [view, hi]
theorem runOps_ok {call : CallH} (hcall : CallHOk P X call) {ops : Array Oper} {K : List V → List Ob → List (Wr V (Option Ob)) → Prop} : ∀ (rest : List Oper) (kn : Kn) (ts : List V) (ms : List Ob) (acc : List (Wr V (Option Ob))),
    runOps P X.G call X.n ops K rest kn ts ms acc → KnOk kn (view ⟨ts, ms⟩) → ts.length = X.n →
    ∃ ts' ms' ws, K ts' ms' (acc ++ ws) ∧ ts'.length = X.n ∧ ws.length = rest.length ∧ textSt (view ⟨ts, ms⟩) ws rest.length = view ⟨ts', ms'⟩ ∧
      ∀ i w, ws[i]? = some w → ∃ o, rest[i]? = some o ∧ OpStep P X ops o (textSt (view ⟨ts, ms⟩) ws i) w
  | [], kn, ts, ms, acc, h, _, hn => ⟨ts, ms, [], by simpa [runOps] using h, hn, rfl, rfl, fun i w hw => by simp at hw⟩
  | o :: rest, kn, ts, ms, acc, h, hkn, hn => by
    unfold runOps at h
    have fin0 : ∀ (kn' : Kn) (e : Eff) (ts' : List V) (ms' : List Ob), KnOk kn' (view ⟨ts, ms⟩) → appT X.n ts o.dst e.v = some ts' → appM ms e.wr = some ms' → runOps P X.G call X.n ops K rest (knOff kn' o.dst) ts' ms' (acc ++ [wrOf ops o e]) →
        OpStep P X ops o (view ⟨ts, ms⟩) (wrOf ops o e) → ∃ ts' ms' ws, K ts' ms' (acc ++ ws) ∧ ts'.length = X.n ∧ ws.length = (o :: rest).length ∧ textSt (view ⟨ts, ms⟩) ws (o :: rest).length = view ⟨ts', ms'⟩ ∧
          ∀ i w, ws[i]? = some w → ∃ o', (o :: rest)[i]? = some o' ∧ OpStep P X ops o' (textSt (view ⟨ts, ms⟩) ws i) w := by
      intro kn' e ts' ms' hpk k1 k2 k3 hstep
      obtain ⟨t1, t2, _⟩ := appT_ok hn k1
      obtain ⟨m1, _⟩ := appM_ok k2
      have happ : (view ⟨ts, ms⟩).app (wrOf ops o e) = view ⟨ts', ms'⟩ := by
        unfold view; simp only; rw [t1, m1]; rfl
      have hk' : KnOk (knOff kn' o.dst) (view ⟨ts', ms'⟩) := by rw [← happ]; exact knOff_ok hpk o.dst e.v _
      obtain ⟨ts2, ms2, ws, q1, q2, q3, q4, q5⟩ := runOps_ok hcall rest _ ts' ms' _ k3 hk' t2
      refine ⟨ts2, ms2, wrOf ops o e :: ws, by simpa using q1, q2, by simp [q3], ?_, fun i w hw => ?_⟩
      · simp only [List.length_cons]
        rw [textSt_cons, happ]; exact q4
      · cases i with
        | zero =>
          simp only [List.getElem?_cons_zero, Option.some.injEq] at hw
          subst hw
          exact ⟨o, rfl, hstep⟩
        | succ i =>
          simp only [List.getElem?_cons_succ] at hw ⊢
          obtain ⟨o', ho', hs'⟩ := q5 i w hw
          exact ⟨o', ho', by rw [textSt_cons, happ]; exact hs'⟩
    split at h
    · rename_i c q ts' hsp
      split at hsp
      · cases hsp
      · rename_i c' hgc
        split at hsp
        · cases hsp
        · rename_i q' hq
          split at hsp
          · cases hsp
          · rename_i ts'' hts
            cases hsp
            obtain ⟨hn1, h1⟩ := andP_ok h
            obtain ⟨_, _, t3⟩ := appT_ok hn hts
            exact fin0 kn ⟨.opt c q.2.v, q.2.rd, []⟩ ts' ms hkn hts rfl h1 (spec_step hcall hkn hgc hq hn1 t3)
    split at h
    · exact h.elim
    · rename_i l hl
      obtain ⟨p, hpm, hpg, hpk, hpw⟩ := wantedBy_ok (X := X) hkn hl
      have h1 := impP_ok (allG_mem h p hpm) hpg
      -- the rest of the text, once this operation is known
      have fin : ∀ (e : Eff) (ts' : List V) (ms' : List Ob), appT X.n ts o.dst e.v = some ts' → appM ms e.wr = some ms' → runOps P X.G call X.n ops K rest (knOff p.2.2 o.dst) ts' ms' (acc ++ [wrOf ops o e]) →
          OpStep P X ops o (view ⟨ts, ms⟩) (wrOf ops o e) → ∃ ts' ms' ws, K ts' ms' (acc ++ ws) ∧ ts'.length = X.n ∧ ws.length = (o :: rest).length ∧ textSt (view ⟨ts, ms⟩) ws (o :: rest).length = view ⟨ts', ms'⟩ ∧
            ∀ i w, ws[i]? = some w → ∃ o', (o :: rest)[i]? = some o' ∧ OpStep P X ops o' (textSt (view ⟨ts, ms⟩) ws i) w := by
        intro e ts' ms' k1 k2 k3 hstep
        obtain ⟨t1, t2, _⟩ := appT_ok hn k1
        obtain ⟨m1, _⟩ := appM_ok k2
        have happ : (view ⟨ts, ms⟩).app (wrOf ops o e) = view ⟨ts', ms'⟩ := by
          unfold view; simp only; rw [t1, m1]; rfl
        have hk' : KnOk (knOff p.2.2 o.dst) (view ⟨ts', ms'⟩) := by rw [← happ]; exact knOff_ok hpk o.dst e.v _
        obtain ⟨ts2, ms2, ws, q1, q2, q3, q4, q5⟩ := runOps_ok hcall rest _ ts' ms' _ k3 hk' t2
        refine ⟨ts2, ms2, wrOf ops o e :: ws, by simpa using q1, q2, by simp [q3], ?_, fun i w hw => ?_⟩
        · simp only [List.length_cons]
          rw [textSt_cons, happ]; exact q4
        · cases i with
          | zero =>
            simp only [List.getElem?_cons_zero, Option.some.injEq] at hw
            subst hw
            exact ⟨o, rfl, hstep⟩
          | succ i =>
            simp only [List.getElem?_cons_succ] at hw ⊢
            obtain ⟨o', ho', hs'⟩ := q5 i w hw
            exact ⟨o', ho', by rw [textSt_cons, happ]; exact hs'⟩
      split at h1
      · rename_i hwant
        split at h1
        · exact h1.elim
        · rename_i args hargs
          split at h1
          · exact h1.elim
          · rename_i ps hps
            obtain ⟨q, hqm, hqg, hqe⟩ := effs_ok (X := X) hcall (view_free ts ms) hps
            have h2 := impP_ok (allP_mem h1 q hqm) hqg
            obtain ⟨hqn, h3⟩ := andP_ok h2
            split at h3
            · rename_i ts' ms' k1 k2
              obtain ⟨t1, t2, t3⟩ := appT_ok hn k1
              refine fin q.e ts' ms' k1 k2 h3 (fun D s2 hag a w hR K' Q hK => ?_)
              rw [hpw D s2 a w hR hag.1, hwant, if_pos rfl]
              have hlk : ∀ t, Operand.tmp t ∈ o.op.operands.toList → t ∈ o.looksAt ops := fun t ht => by
                unfold Oper.looksAt
                exact List.mem_append_left _ (List.mem_filterMap.2 ⟨.tmp t, ht, rfl⟩)
              refine hqe hqn o rfl t3 D s2 a w hR (fun β hB => ?_) (fun id hid => hag.2 id (by simp [wrOf, hid])) (fun r hr => hag.2 r.1 (by simp only [wrOf, List.mem_append, List.mem_map]; exact .inr ⟨r, hr, rfl⟩)) K' Q hK
              refine argsOf_ok hB (kn := p.2.2) (fun t ht b hb => ?_) ?_
              · rw [hag.1 t (hlk t ht)]; exact knAt_ok hpk hb
              · rw [argsOf_congr (s := view ⟨ts, ms⟩) (fun t ht => hag.1 t (hlk t ht))]
                exact hargs
            · exact h3.elim
      · rename_i hwant
        split at h1
        · rename_i ts' k1
          obtain ⟨t1, t2, t3⟩ := appT_ok hn k1
          refine fin ⟨undefV, [], []⟩ ts' ms k1 rfl h1 (fun D s2 hag a w hR K' Q hK => ?_)
          rw [hpw D s2 a w hR hag.1, hwant]
          simp only [Bool.false_eq_true, if_false]
          obtain ⟨hc, β, hb, hB⟩ := hR
          exact hK _ _ ⟨hc, β, hb, hB.put t3 (undefV_ok β)⟩
        · exact h1.elim

noncomputable def genRegion (P : Program) (G : List (Nat × List L)) (call : CallH) (n : Nat) (ops : Array Oper) (draw : Bool) (σ : St) (K : St → Prop) : Prop :=
  runOps P G call n ops (fun ts ms ws => match draw with
    | true => (match P.follows .mixedOrders && earlier ops.toList && ordered (befores ops.toList) 0 ws with
      | true => K ⟨ts, ms⟩
      | false => False)
    | false => K ⟨ts, ms⟩) ops.toList [] σ.tmps σ.mem []
theorem wpList_text {D : Dx} {ops : Array Oper} {Q : Exit → Act → World → Prop} {s0 : S} {ws : List (Wr V (Option Ob))} {all : List Oper} (hl : ws.length = all.length)
    (hs : ∀ i w, ws[i]? = some w → ∃ o, all[i]? = some o ∧ OpStep P X ops o (textSt s0 ws i) w) (hend : ∀ a w, Rep X D (textSt s0 ws all.length) a w → Q .normal a w) :
    ∀ (k i : Nat), k + i = all.length → ∀ a w, Rep X D (textSt s0 ws i) a w → wpList P ops Q (all.drop i) a w
  | 0, i, hk, a, w, hR => by
    have : all.drop i = [] := List.drop_eq_nil_of_le (by omega)
    rw [this]
    have e : i = all.length := by omega
    subst e
    exact hend a w hR
  | k + 1, i, hk, a, w, hR => by
    have hlt : i < all.length := by omega
    rw [List.drop_eq_getElem_cons hlt]
    obtain ⟨o, ho, hstep⟩ := hs i _ (List.getElem?_eq_getElem (by omega : i < ws.length))
    rw [List.getElem?_eq_getElem hlt] at ho
    cases ho
    refine wpList_step fun K hK => ?_
    refine hstep D _ ⟨fun _ _ => rfl, fun _ _ => rfl⟩ a w hR K Q (fun a' w' hR' => hK a' w' ?_)
    refine wpList_text hl hs hend k (i + 1) (by omega) a' w' ?_
    have : textSt s0 ws (i + 1) = (textSt s0 ws i).app ws[i] := by
      rw [textSt, List.getElem?_eq_getElem (by omega : i < ws.length)]
    rw [this]; exact hR'

theorem genRegion_ok {call : CallH} (hcall : CallHOk P X call) {ops : Array Oper} {draw : Bool} {σ : St} {K : St → Prop} (h : genRegion P X.G call X.n ops draw σ K) (hn : σ.tmps.length = X.n) :
    ∃ σ', K σ' ∧ σ'.tmps.length = X.n ∧ ∀ (id : Nat) (Q : Exit → Act → World → Prop) D a w, Rep X D (view σ) a w → (∀ a' w', Rep X D (view σ') a' w' → Q .normal a' w') → (Code.region id ops draw).wp P Q a w := by
  unfold genRegion at h
  obtain ⟨ts', ms', ws, hK, hl, hql, hqt, hqs⟩ := runOps_ok hcall _ _ _ _ _ h (fun p hp => by cases hp) hn
  cases draw with
  | true =>
    simp only [List.nil_append] at hK
    split at hK
    · rename_i hc
      simp only [Bool.and_eq_true] at hc
      refine ⟨⟨ts', ms'⟩, hK, hl, fun id Q D a w hR hQ => ?_⟩
      refine wp_region_any hc.1.1 ?_
      refine any_order (R := Rep X D) (s0 := view σ) (ws := ws) (by simpa using hql) hc.1.2 hc.2 (fun i wr hw s hag a' w' hR' => ?_) (fun a' w' hR' => hQ a' w' ?_)
        ops.size (Array.replicate ops.size false) (view σ) a _ (by simp) ?_ ?_ ?_ ?_ hR.drew
      · obtain ⟨o, ho', hstep⟩ := hqs i wr hw
        have := hstep D s hag a' w' hR' (fun a'' w'' => Rep X D (s.app wr) a'' w'') Q (fun a'' w'' h => h)
        unfold wpOp
        rw [← Array.getElem?_toList, ho']
        simp only
        split
        · rename_i hw2; rw [if_pos hw2] at this; exact .inl this
        · rename_i hw2; rw [if_neg hw2] at this; exact this
      · rw [← hqt]; simpa using hR'
      · refine Nat.le_trans List.countP_le_length (by simp)
      · intro i hi
        have := hi.2
        simp [hi.1] at this
      · exact (Inv.start _ _).congr (fun j => ⟨fun h => h.elim, fun h => by have := h.2; simp [h.1] at this⟩)
      · exact (Inv.start _ _).congr (fun j => ⟨fun h => h.elim, fun h => by have := h.2; simp [h.1] at this⟩)
    · exact hK.elim
  | false =>
    refine ⟨⟨ts', ms'⟩, by simpa using hK, hl, fun id Q D a w hR hQ => ?_⟩
    refine wp_region_list ?_
    have := wpList_text (P := P) (X := X) (D := D) (ops := ops) (Q := Q) (s0 := view σ) (ws := ws) (all := ops.toList) hql hqs (fun a' w' hR' => hQ a' w' (by rw [← hqt]; exact hR')) ops.toList.length 0 (by simp) a w hR
    simpa using this
end
end Go.Proofs.YtcecdpebapkfaaaHx
namespace Go.Proofs.YtcecdpebapkfaaaHx
open Go Go.RowKit

inductive Out where
  | normal
  | ret
  | exit (id : Nat)
def Out.to : Out → Exit
  | .normal => .normal
  | .ret => .ret
  | .exit id => .exit id
def inBlk (id : Nat) : Out → Out
  | .exit j => if Nat.beq j id then .normal else .exit j
  | o => o

/-! ### what a value names -/
def L.ids : L → List Nat
  | .ptr id _ | .elt id _ _ _ _ | .lel id _ _ _ | .vec id | .sub id _ _ _ | .map id => [id]
  | .clo _ caps => caps.map (·.1)
  | _ => []
def W.ids : W → List Nat
  | .one l => l.ids
  | .agg ls => ls.flatMap L.ids
def V.ids : V → List Nat
  | .val w => w.ids
  | .tup ws => ws.flatMap W.ids
  | .opt _ v => v.ids
def Seg.ids : Seg → List Nat
  | .cells ls => ls.flatMap L.ids
  | .arr _ _ => []
def Ob.ids : Ob → List Nat
  | .mem _ segs => segs.flatMap Seg.ids
  | _ => []
/-- two readings of numbers that agree on these -/
def Bm.on (l : List Nat) (β β' : Bm) : Prop := ∀ id ∈ l, ∀ p, β id = some p → β' id = some p
theorem capsRel_on {β β' : Bm} : ∀ {ps : List (Nat × Nat)} {xs : List Value}, Bm.on (ps.map (·.1)) β β' → capsRel β ps xs → capsRel β' ps xs
  | [], [], _, _ => trivial
  | p :: ps, x :: xs, h, ⟨⟨b, h1, h2⟩, h3⟩ => ⟨⟨b, h _ (by simp) _ h1, h2⟩, capsRel_on (fun id hid => h id (by simp at hid ⊢; exact .inr hid)) h3⟩
  | [], _ :: _, _, h => h.elim
  | _ :: _, [], _, h => h.elim
theorem L.rel_on {β β' : Bm} {l : L} (h : Bm.on l.ids β β') {x : Value} (hr : l.rel β x) : l.rel β' x := by
  cases l with
  | ptr id off => obtain ⟨b, h1, h2⟩ := hr; exact ⟨b, h id (by simp [L.ids]) _ h1, h2⟩
  | elt id base stride i off => obtain ⟨b, h1, h2⟩ := hr; exact ⟨b, h id (by simp [L.ids]) _ h1, h2⟩
  | lel id stride i off => obtain ⟨a, o, n, c, h1, h2⟩ := hr; exact ⟨a, o, n, c, h id (by simp [L.ids]) _ h1, h2⟩
  | vec id => exact ⟨h id (by simp [L.ids]) _ hr.1, hr.2⟩
  | sub id stride lo len => obtain ⟨a, o, n, c, h1, h2⟩ := hr; exact ⟨a, o, n, c, h id (by simp [L.ids]) _ h1, h2⟩
  | map id => obtain ⟨b, h1, h2⟩ := hr; exact ⟨b, h id (by simp [L.ids]) _ h1, h2⟩
  | clo f caps => obtain ⟨xs, h1, h2⟩ := hr; exact ⟨xs, h1, capsRel_on h h2⟩
  | _ => exact hr
theorem all2_on {α : Type} {ids : α → List Nat} {R : Bm → α → Value → Prop} {β β' : Bm} (hR : ∀ a x, Bm.on (ids a) β β' → R β a x → R β' a x) : ∀ {ls : List α} {xs : List Value}, Bm.on (ls.flatMap ids) β β' → All2 (R β) ls xs → All2 (R β') ls xs
  | [], [], _, _ => trivial
  | l :: ls, x :: xs, h, ⟨h1, h2⟩ => ⟨hR l x (fun id hid => h id (by simp [hid])) h1, all2_on hR (fun id hid => h id (by simp only [List.flatMap_cons, List.mem_append]; exact .inr hid)) h2⟩
  | [], _ :: _, _, h => h.elim
  | _ :: _, [], _, h => h.elim
theorem W.rel_on {β β' : Bm} {w : W} (h : Bm.on w.ids β β') {x : Value} (hr : w.rel β x) : w.rel β' x := by
  cases w with
  | one l => exact L.rel_on h hr
  | agg ls => obtain ⟨cs, h1, h2⟩ := hr; exact ⟨cs, h1, all2_on (R := fun β => L.rel β) (fun _ _ h hr => L.rel_on h hr) h h2⟩
theorem V.rel_on {β β' : Bm} : ∀ {v : V}, Bm.on v.ids β β' → ∀ {x : Value}, v.rel β x → v.rel β' x
  | .val _w, h, _x, hr => W.rel_on h hr
  | .tup _ws, h, _x, ⟨cs, h1, h2⟩ => ⟨cs, h1, all2_on (R := fun β => W.rel β) (fun _ _ h hr => W.rel_on h hr) h h2⟩
  | .opt _ v, h, _x, hr => fun hc => V.rel_on (v := v) h (hr hc)
theorem segsOk_on {β β' : Bm} {w : World} {b : Nat} : ∀ {segs : List Seg} {off : Nat}, Bm.on (segs.flatMap Seg.ids) β β' → segsOk β w b off segs → segsOk β' w b off segs
  | [], _, _, _ => trivial
  | .cells ls :: r, off, h, ⟨h1, h2⟩ => ⟨fun j l hl => by
      obtain ⟨x, k1, k2⟩ := h1 j l hl
      refine ⟨x, k1, L.rel_on (fun id hid => h id ?_) k2⟩
      simp only [List.flatMap_cons, List.mem_append, Seg.ids]
      exact .inl (List.mem_flatMap.2 ⟨l, List.mem_of_getElem? hl, hid⟩), segsOk_on (fun id hid => h id (by simp only [List.flatMap_cons, List.mem_append]; exact .inr hid)) h2⟩
  | .arr n cols :: r, off, h, ⟨h1, h2⟩ => ⟨h1, segsOk_on (fun id hid => h id (by simp only [List.flatMap_cons, List.mem_append]; exact .inr hid)) h2⟩
theorem Ob.ok_on {β β' : Bm} {w : World} : ∀ {o : Ob} {p : Pl}, Bm.on o.ids β β' → o.ok β w p → o.ok β' w p
  | .mem _own _segs, .blk _b, h, ⟨h1, h2, h3⟩ => ⟨h1, segsOk_on h h2, h3⟩
  | .mp _ _key _agg _has _cols, .blk _b, _, hk => hk
  | .vec _own _e _n _cols, .val _x, _, hk => hk
  | .gone, _, _, _ => trivial
  | .mem _ _, .val _, _, h => h.elim
  | .mp _ _ _ _ _, .val _, _, h => h.elim
  | .vec _ _ _ _, .blk _, _, h => h.elim
def belowB (m : Nat) (l : List Nat) : Bool := l.all fun i => Nat.blt i m
theorem belowB_ok {m : Nat} {l : List Nat} (h : belowB m l = true) : ∀ i ∈ l, i < m := fun i hi => by
  have := List.all_eq_true.1 h i hi
  simpa using this

/-! ### other names -/
def L.ren (f : Nat → Nat) : L → L
  | .ptr id off => .ptr (f id) off
  | .elt id base stride i off => .elt (f id) base stride i off
  | .lel id stride i off => .lel (f id) stride i off
  | .vec id => .vec (f id)
  | .sub id stride lo len => .sub (f id) stride lo len
  | .map id => .map (f id)
  | .clo fn caps => .clo fn (caps.map fun p => (f p.1, p.2))
  | l => l
def W.ren (f : Nat → Nat) : W → W
  | .one l => .one (l.ren f)
  | .agg ls => .agg (ls.map (L.ren f))
def V.ren (f : Nat → Nat) : V → V
  | .val w => .val (w.ren f)
  | .tup ws => .tup (ws.map (W.ren f))
  | .opt c v => .opt c (v.ren f)
def Seg.ren (f : Nat → Nat) : Seg → Seg
  | .cells ls => .cells (ls.map (L.ren f))
  | .arr n cols => .arr n cols
def Ob.ren (f : Nat → Nat) : Ob → Ob
  | .mem own segs => .mem own (segs.map (Seg.ren f))
  | o => o
def RenOn (f : Nat → Nat) (l : List Nat) (β β' : Bm) : Prop := ∀ id ∈ l, ∀ p, β id = some p → β' (f id) = some p
theorem capsRel_ren {f : Nat → Nat} {β β' : Bm} : ∀ {ps : List (Nat × Nat)} {xs : List Value}, RenOn f (ps.map (·.1)) β β' → capsRel β ps xs → capsRel β' (ps.map fun p => (f p.1, p.2)) xs
  | [], [], _, _ => trivial
  | p :: ps, x :: xs, h, ⟨⟨b, h1, h2⟩, h3⟩ => ⟨⟨b, h _ (by simp) _ h1, h2⟩, capsRel_ren (fun id hid => h id (by simp at hid ⊢; exact .inr hid)) h3⟩
  | [], _ :: _, _, h => h.elim
  | _ :: _, [], _, h => h.elim
theorem L.rel_ren {f : Nat → Nat} {β β' : Bm} {l : L} (h : RenOn f l.ids β β') {x : Value} (hr : l.rel β x) : (l.ren f).rel β' x := by
  cases l with
  | ptr id off => obtain ⟨b, h1, h2⟩ := hr; exact ⟨b, h id (by simp [L.ids]) _ h1, h2⟩
  | elt id base stride i off => obtain ⟨b, h1, h2⟩ := hr; exact ⟨b, h id (by simp [L.ids]) _ h1, h2⟩
  | lel id stride i off => obtain ⟨a, o, n, c, h1, h2⟩ := hr; exact ⟨a, o, n, c, h id (by simp [L.ids]) _ h1, h2⟩
  | vec id => exact ⟨h id (by simp [L.ids]) _ hr.1, hr.2⟩
  | sub id stride lo len => obtain ⟨a, o, n, c, h1, h2⟩ := hr; exact ⟨a, o, n, c, h id (by simp [L.ids]) _ h1, h2⟩
  | map id => obtain ⟨b, h1, h2⟩ := hr; exact ⟨b, h id (by simp [L.ids]) _ h1, h2⟩
  | clo fn caps => obtain ⟨xs, h1, h2⟩ := hr; exact ⟨xs, h1, capsRel_ren h h2⟩
  | _ => exact hr
theorem all2_ren {α : Type} {ids : α → List Nat} {g : α → α} {R : Bm → α → Value → Prop} {f : Nat → Nat} {β β' : Bm} (hR : ∀ a x, RenOn f (ids a) β β' → R β a x → R β' (g a) x) : ∀ {ls : List α} {xs : List Value}, RenOn f (ls.flatMap ids) β β' → All2 (R β) ls xs → All2 (R β') (ls.map g) xs
  | [], [], _, _ => trivial
  | l :: ls, x :: xs, h, ⟨h1, h2⟩ => ⟨hR l x (fun id hid => h id (by simp [hid])) h1, all2_ren hR (fun id hid => h id (by simp only [List.flatMap_cons, List.mem_append]; exact .inr hid)) h2⟩
  | [], _ :: _, _, h => h.elim
  | _ :: _, [], _, h => h.elim
theorem W.rel_ren {f : Nat → Nat} {β β' : Bm} {w : W} (h : RenOn f w.ids β β') {x : Value} (hr : w.rel β x) : (w.ren f).rel β' x := by
  cases w with
  | one l => exact L.rel_ren h hr
  | agg ls => obtain ⟨cs, h1, h2⟩ := hr; exact ⟨cs, h1, all2_ren (R := fun β => L.rel β) (fun _ _ h hr => L.rel_ren h hr) h h2⟩
theorem V.rel_ren {f : Nat → Nat} {β β' : Bm} : ∀ {v : V}, RenOn f v.ids β β' → ∀ {x : Value}, v.rel β x → (v.ren f).rel β' x
  | .val _w, h, _x, hr => W.rel_ren h hr
  | .tup _ws, h, _x, ⟨cs, h1, h2⟩ => ⟨cs, h1, all2_ren (R := fun β => W.rel β) (fun _ _ h hr => W.rel_ren h hr) h h2⟩
  | .opt _ v, h, _x, hr => fun hc => V.rel_ren (v := v) h (hr hc)
theorem vs_ren {f : Nat → Nat} {β β' : Bm} {vs : List V} {xs : List Value} (h : RenOn f (vs.flatMap V.ids) β β') (hr : All2 (V.rel β) vs xs) : All2 (V.rel β') (vs.map (V.ren f)) xs :=
  all2_ren (R := fun β => V.rel β) (fun _ _ h hr => V.rel_ren h hr) h hr
theorem segsOk_ren {f : Nat → Nat} {β β' : Bm} {w : World} {b : Nat} : ∀ {segs : List Seg} {off : Nat}, RenOn f (segs.flatMap Seg.ids) β β' → segsOk β w b off segs → segsOk β' w b off (segs.map (Seg.ren f))
  | [], _, _, _ => trivial
  | .cells ls :: r, off, h, ⟨h1, h2⟩ => by
    refine ⟨fun j l hl => ?_, ?_⟩
    · simp only [List.getElem?_map] at hl
      cases hl0 : ls[j]? with
      | none => rw [hl0] at hl; cases hl
      | some l0 =>
        rw [hl0] at hl; cases hl
        obtain ⟨x, k1, k2⟩ := h1 j l0 hl0
        refine ⟨x, k1, L.rel_ren (fun id hid => h id ?_) k2⟩
        simp only [List.flatMap_cons, List.mem_append, Seg.ids]
        exact .inl (List.mem_flatMap.2 ⟨l0, List.mem_of_getElem? hl0, hid⟩)
    · rw [List.length_map]
      exact segsOk_ren (fun id hid => h id (by simp only [List.flatMap_cons, List.mem_append]; exact .inr hid)) h2
  | .arr n cols :: r, off, h, ⟨h1, h2⟩ => ⟨h1, segsOk_ren (fun id hid => h id (by simp only [List.flatMap_cons, List.mem_append]; exact .inr hid)) h2⟩
theorem Ob.ok_ren {f : Nat → Nat} {β β' : Bm} {w : World} : ∀ {o : Ob} {p : Pl}, RenOn f o.ids β β' → o.ok β w p → (o.ren f).ok β' w p
  | .mem _own _segs, .blk _b, h, ⟨h1, h2, h3⟩ => ⟨h1, segsOk_ren h h2, h3⟩
  | .mp _ _key _agg _has _cols, .blk _b, _, hk => hk
  | .vec _own _e _n _cols, .val _x, _, hk => hk
  | .gone, _, _, _ => trivial
  | .mem _ _, .val _, _, h => h.elim
  | .mp _ _ _ _ _, .val _, _, h => h.elim
  | .vec _ _ _ _, .blk _, _, h => h.elim
theorem Ob.ren_own (f : Nat → Nat) (o : Ob) : (o.ren f).own = o.own := by cases o <;> rfl
theorem Ob.ren_gone (f : Nat → Nat) {o : Ob} (h : o ≠ .gone) : o.ren f ≠ .gone := by cases o <;> first | exact absurd rfl h | (intro e; cases e)
theorem Ob.gone_ren (f : Nat → Nat) {o : Ob} (h : o.ren f ≠ .gone) : o ≠ .gone := fun e => h (by rw [e]; rfl)

/-! ### one state stands for another one: nothing, where it is plain -/
def andO : Option Prop → Option Prop → Option Prop
  | none, x => x
  | some p, none => some p
  | some p, some q => some (p ∧ q)
theorem andO_ok {a b : Option Prop} (h : holdsP (andO a b)) : holdsP a ∧ holdsP b := by
  cases a with
  | none => exact ⟨trivial, h⟩
  | some p => cases b with
    | none => exact ⟨h, trivial⟩
    | some q => exact h
def checkO : Bool → Option Prop
  | true => none
  | false => some False
theorem checkO_ok {b : Bool} (h : holdsP (checkO b)) : b = true := by
  cases b with
  | true => rfl
  | false => exact h.elim
def subN : N → N → Option Prop
  | .lit a, .lit b => checkO (decide (a = b))
  | a, b => some (a.v = b.v)
theorem subN_ok {a b : N} (h : holdsP (subN a b)) : a.v = b.v := by
  unfold subN at h
  split at h
  · have := checkO_ok h; simpa [N.v] using this
  · exact h
def subB : B → B → Option Prop
  | .lit a, .lit b => checkO (a == b)
  | a, b => some (a.v = b.v)
theorem subB_ok {a b : B} (h : holdsP (subB a b)) : a.v = b.v := by
  unfold subB at h
  split at h
  · have := checkO_ok h; simpa [B.v] using this
  · exact h
def subL : L → L → Option Prop
  | _, .junk => none
  | .int k e, .int k' e' => match kindEq k k' with
    | true => subN e e'
    | false => some False
  | .bool e, .bool e' => subB e e'
  | .ptr i o, .ptr i' o' => checkO (Nat.beq i i' && Nat.beq o o')
  | .vec i, .vec i' => checkO (Nat.beq i i')
  | .map i, .map i' => checkO (Nat.beq i i')
  | l, l' => some (l = l')
theorem subL_ok {β : Bm} {l l' : L} (h : holdsP (subL l l')) {x : Value} (hx : l.rel β x) : l'.rel β x := by
  unfold subL at h
  split at h
  · trivial
  · split at h
    · rename_i hk
      have := kindEq_eq hk
      subst this
      simp only [L.rel] at hx ⊢; rw [hx, subN_ok h]
    · exact h.elim
  · simp only [L.rel] at hx ⊢; rw [hx, subB_ok h]
  · have hb := checkO_ok h
    simp only [Bool.and_eq_true] at hb
    rw [← Nat.eq_of_beq_eq_true hb.1, ← Nat.eq_of_beq_eq_true hb.2]; exact hx
  · rw [← Nat.eq_of_beq_eq_true (checkO_ok h)]; exact hx
  · rw [← Nat.eq_of_beq_eq_true (checkO_ok h)]; exact hx
  · have h : _ = _ := h
    rw [← h]; exact hx
/-- two lists, one by one -/
def sub2 {α : Type} (f : α → α → Option Prop) : List α → List α → Option Prop
  | [], [] => none
  | l :: ls, l' :: ls' => andO (f l l') (sub2 f ls ls')
  | _, _ => some False
theorem sub2_all {α : Type} {f : α → α → Option Prop} {R : α → Value → Prop} (hf : ∀ a b x, holdsP (f a b) → R a x → R b x) : ∀ {ls ls' : List α}, holdsP (sub2 f ls ls') → ∀ {xs : List Value}, All2 R ls xs → All2 R ls' xs
  | [], [], _, xs, hx => hx
  | l :: r, l' :: r', h, xs, hx => by
    cases xs with
    | nil => exact hx.elim
    | cons x xs =>
      obtain ⟨h1, h2⟩ := andO_ok h
      exact ⟨hf _ _ _ h1 hx.1, sub2_all hf h2 hx.2⟩
  | [], _ :: _, h, _, _ => h.elim
  | _ :: _, [], h, _, _ => h.elim
theorem sub2_get {α : Type} {f : α → α → Option Prop} : ∀ {ls ls' : List α}, holdsP (sub2 f ls ls') → ls.length = ls'.length ∧ ∀ (j : Nat) (l' : α), ls'[j]? = some l' → ∃ l, ls[j]? = some l ∧ holdsP (f l l')
  | [], [], _ => ⟨rfl, fun j l' h => by simp at h⟩
  | l :: r, l' :: r', h => by
    obtain ⟨h1, h2⟩ := andO_ok h
    obtain ⟨k1, k2⟩ := sub2_get h2
    refine ⟨by simp [k1], fun j m hm => ?_⟩
    cases j with
    | zero => simp at hm; subst hm; exact ⟨l, rfl, h1⟩
    | succ j => simpa using k2 j m (by simpa using hm)
  | [], _ :: _, h => h.elim
  | _ :: _, [], h => h.elim
def subW : W → W → Option Prop
  | _, .one .junk => none
  | .one l, .one l' => subL l l'
  | .agg ls, .agg ls' => sub2 subL ls ls'
  | _, _ => some False
theorem subW_ok {β : Bm} {w w' : W} (h : holdsP (subW w w')) {x : Value} (hx : w.rel β x) : w'.rel β x := by
  unfold subW at h
  split at h
  · trivial
  · exact subL_ok h hx
  · obtain ⟨cs, h1, h2⟩ := hx; exact ⟨cs, h1, sub2_all (R := L.rel β) (fun _ _ _ h hx => subL_ok h hx) h h2⟩
  · exact h.elim
def subV : V → V → Option Prop
  | _, .val (.one .junk) => none
  | .val w, .val w' => subW w w'
  | .tup ws, .tup ws' => sub2 subW ws ws'
  | _, _ => some False
theorem subV_ok {β : Bm} {v v' : V} (h : holdsP (subV v v')) {x : Value} (hx : v.rel β x) : v'.rel β x := by
  unfold subV at h
  split at h
  · trivial
  · exact subW_ok h hx
  · obtain ⟨cs, h1, h2⟩ := hx; exact ⟨cs, h1, sub2_all (R := W.rel β) (fun _ _ _ h hx => subW_ok h hx) h h2⟩
  · exact h.elim
/-- columns, as far as n goes -/
def subC (n : Nat) : Col → Col → Option Prop
  | .ints k g, .ints k' g' => match kindEq k k' with
    | true => some (∀ i, i < n → g i = g' i)
    | false => some False
  | .bools g, .bools g' => some (∀ i, i < n → g i = g' i)
  | .vals g, .vals g' => some (∀ i, i < n → g i = g' i)
  | _, _ => some False
theorem subC_ok {n : Nat} {c c' : Col} (h : holdsP (subC n c c')) {i : Nat} (hi : i < n) {x : Value} (hx : c.rel i x) : c'.rel i x := by
  unfold subC at h
  split at h
  · split at h
    · rename_i hk
      have := kindEq_eq hk
      subst this
      have h := h i hi
      simp only [Col.rel] at hx ⊢; rw [hx, h]
    · exact h.elim
  · have h := h i hi
    simp only [Col.rel] at hx ⊢; rw [hx, h]
  · have h := h i hi
    simp only [Col.rel] at hx ⊢; rw [hx, h]
  · exact h.elim
theorem subCs_row {w : World} {b off n : Nat} {cols cols' : List Col} (h : holdsP (sub2 (subC n) cols cols')) (hr : rowOk w b off n cols) : rowOk w b off n cols' := by
  obtain ⟨h1, h2⟩ := sub2_get h
  intro i hi j c hc
  obtain ⟨c0, k1, k2⟩ := h2 j c hc
  obtain ⟨x, k3, k4⟩ := hr i hi j c0 k1
  exact ⟨x, by rw [← h1]; exact k3, subC_ok k2 hi k4⟩
def subS : List Seg → List Seg → Option Prop
  | [], [] => none
  | .cells ls :: r, .cells ls' :: r' => andO (sub2 subL ls ls') (subS r r')
  | .arr n cs :: r, .arr n' cs' :: r' => andO (some (n = n')) (andO (sub2 (subC n) cs cs') (subS r r'))
  | _, _ => some False
theorem subS_ok {β : Bm} {w : World} {b : Nat} : ∀ {segs segs' : List Seg} {off : Nat}, holdsP (subS segs segs') → segsOk β w b off segs → segsOk β w b off segs'
  | [], [], _, _, h => h
  | .cells ls :: r, .cells ls' :: r', off, h, ⟨k1, k2⟩ => by
    obtain ⟨h1, h2⟩ := andO_ok h
    obtain ⟨l1, l2⟩ := sub2_get h1
    refine ⟨fun j l' hl' => ?_, by rw [← l1]; exact subS_ok h2 k2⟩
    obtain ⟨l, m1, m2⟩ := l2 j l' hl'
    obtain ⟨x, x1, x2⟩ := k1 j l m1
    exact ⟨x, x1, subL_ok m2 x2⟩
  | .arr n cs :: r, .arr n' cs' :: r', off, h, ⟨k1, k2⟩ => by
    obtain ⟨h1, h2⟩ := andO_ok h
    obtain ⟨h2, h3⟩ := andO_ok h2
    have h1 : n = n' := h1
    subst h1
    exact ⟨subCs_row h2 k1, by rw [← (sub2_get h2).1]; exact subS_ok h3 k2⟩
  | [], .cells _ :: _, _, h, _ => h.elim
  | [], .arr _ _ :: _, _, h, _ => h.elim
  | .cells _ :: _, [], _, h, _ => h.elim
  | .arr _ _ :: _, [], _, h, _ => h.elim
  | .cells _ :: _, .arr _ _ :: _, _, h, _ => h.elim
  | .arr _ _ :: _, .cells _ :: _, _, h, _ => h.elim
def subK (has : Int → Bool) : KCol → KCol → Option Prop
  | .ints k g, .ints k' g' => match kindEq k k' with
    | true => some (∀ i, has i = true → g i = g' i)
    | false => some False
  | .bools g, .bools g' => some (∀ i, has i = true → g i = g' i)
  | _, _ => some False
theorem subK_ok {has : Int → Bool} {c c' : KCol} (h : holdsP (subK has c c')) {i : Int} (hi : has i = true) {x : Value} (hx : c.rel i x) : c'.rel i x := by
  unfold subK at h
  split at h
  · split at h
    · rename_i hk
      have := kindEq_eq hk
      subst this
      have h := h i hi
      simp only [KCol.rel] at hx ⊢; rw [hx, h]
    · exact h.elim
  · have h := h i hi
    simp only [KCol.rel] at hx ⊢; rw [hx, h]
  · exact h.elim
theorem kval_sub {has : Int → Bool} {agg : Bool} {cols cols' : List KCol} (h : holdsP (sub2 (subK has) cols cols')) {k : Int} (hk : has k = true) {x : Value} (hx : kval agg cols k x) : kval agg cols' k x := by
  obtain ⟨h1, h2⟩ := sub2_get h
  unfold kval at hx ⊢
  split at hx
  · rename_i ha
    rw [if_pos ha]
    obtain ⟨cs, rfl, hsz, hc⟩ := hx
    refine ⟨cs, rfl, by omega, fun j c hcj => ?_⟩
    obtain ⟨c0, k1, k2⟩ := h2 j c hcj
    obtain ⟨y, hy, hry⟩ := hc j c0 k1
    exact ⟨y, hy, subK_ok k2 hk hry⟩
  · rename_i ha
    rw [if_neg ha]
    obtain ⟨c0, rfl, hr⟩ := hx
    cases cols' with
    | nil => simp at h1
    | cons c r =>
      cases r with
      | cons _ _ => simp at h1
      | nil =>
        obtain ⟨c1, k1, k2⟩ := h2 0 c rfl
        simp at k1; subst k1
        exact ⟨c, rfl, subK_ok k2 hk hr⟩
def subO : Ob → Ob → Option Prop
  | _, .gone => none
  | .mem o segs, .mem o' segs' => match o == o' with
    | true => subS segs segs'
    | false => some False
  | .mp o k a has cols, .mp o' k' a' has' cols' => match o == o' && kindEq k k' && a == a' with
    | true => andO (some (∀ i, has i = has' i)) (sub2 (subK has) cols cols')
    | false => some False
  | .vec o e n cols, .vec o' e' n' cols' => match o == o' && Nat.beq e e' with
    | true => andO (some (n = n')) (sub2 (subC n) cols cols')
    | false => some False
  | _, _ => some False
theorem subO_ok {β : Bm} {w : World} {p : Pl} {o o' : Ob} (h : holdsP (subO o o')) (hok : o.ok β w p) : o'.ok β w p ∧ (o' ≠ .gone → o'.own = o.own ∧ o ≠ .gone) := by
  unfold subO at h
  split at h
  · exact ⟨trivial, fun h => absurd rfl h⟩
  · split at h
    · rename_i hb
      simp only [beq_iff_eq] at hb
      subst hb
      cases p with
      | val _ => exact hok.elim
      | blk b => exact ⟨⟨hok.1, subS_ok h hok.2.1, hok.2.2⟩, fun _ => ⟨rfl, fun h => by cases h⟩⟩
    · exact h.elim
  · split at h
    · rename_i hb
      simp only [Bool.and_eq_true, beq_iff_eq] at hb
      obtain ⟨⟨rfl, hk⟩, rfl⟩ := hb
      have := kindEq_eq hk
      subst this
      obtain ⟨hh, hc⟩ := andO_ok h
      have hh : ∀ i, _ = _ := hh
      cases p with
      | val _ => exact hok.elim
      | blk b =>
        obtain ⟨h1, es, clock, h2, h3⟩ := hok
        refine ⟨⟨h1, es, clock, h2, ⟨fun e he => ?_, fun k hk => ?_, h3.once, h3.born⟩⟩, fun _ => ⟨rfl, fun h => by cases h⟩⟩
        · obtain ⟨k, q1, q2, q3⟩ := h3.keys e he
          exact ⟨k, q1, by rw [← hh]; exact q2, kval_sub hc q2 q3⟩
        · exact h3.all k (by rw [hh]; exact hk)
    · exact h.elim
  · split at h
    · rename_i hb
      simp only [Bool.and_eq_true, beq_iff_eq] at hb
      obtain ⟨rfl, he⟩ := hb
      have := Nat.eq_of_beq_eq_true he
      subst this
      obtain ⟨hn, hc⟩ := andO_ok h
      have hn : _ = _ := hn
      subst hn
      cases p with
      | blk _ => exact hok.elim
      | val x =>
        obtain ⟨h0, h1⟩ := hok
        refine ⟨⟨h0, ?_⟩, fun _ => ⟨rfl, fun h => by cases h⟩⟩
        rcases h1 with h1 | ⟨b, off, cap, q1, q2, q3, q4, q5⟩
        · exact .inl h1
        · exact .inr ⟨b, off, cap, q1, q2, q3, subCs_row hc q4, fun ho => by rw [← (sub2_get hc).1]; exact q5 ho⟩
    · exact h.elim
  · exact h.elim
def subTs : List V → List V → Option Prop := sub2 subV
def subMs : List Ob → List Ob → Option Prop
  | _, [] => none
  | o :: os, o' :: os' => andO (subO o o') (subMs os os')
  | [], _ :: _ => some False
theorem subTs_get {ls ls' : List V} (h : holdsP (subTs ls ls')) : ls.length = ls'.length ∧ ∀ (j : Nat), holdsP (subV (lget (.val (.one .junk)) ls j) (lget (.val (.one .junk)) ls' j)) := by
  obtain ⟨h1, h2⟩ := sub2_get h
  refine ⟨h1, fun j => ?_⟩
  by_cases hj : j < ls'.length
  · obtain ⟨l, k1, k2⟩ := h2 j _ (List.getElem?_eq_getElem hj)
    simp only [lget_eq, List.getD_eq_getElem?_getD, k1, List.getElem?_eq_getElem hj, Option.getD_some]
    exact k2
  · simp only [lget_eq, List.getD_eq_getElem?_getD, List.getElem?_eq_none (by omega : ls'.length ≤ j), Option.getD_none]
    trivial
theorem subMs_get : ∀ {ls ls' : List Ob}, holdsP (subMs ls ls') → ∀ (j : Nat) (o' : Ob), ls'[j]? = some o' → ∃ o, ls[j]? = some o ∧ holdsP (subO o o')
  | _, [], _, j, o', h => by simp at h
  | o :: os, o0 :: os', h, j, o', ho' => by
    obtain ⟨h1, h2⟩ := andO_ok h
    cases j with
    | zero => simp at ho'; subst ho'; exact ⟨o, rfl, h1⟩
    | succ j => simpa using subMs_get h2 j o' (by simpa using ho')
  | [], _ :: _, h, _, _, _ => h.elim
/-- what the state names, it has -/
def St.closed (σ : St) : Bool := σ.tmps.all (fun v => belowB σ.mem.length v.ids) && σ.mem.all (fun o => belowB σ.mem.length o.ids)
def toP : Option Prop → Prop
  | none => True
  | some p => p
theorem toP_ok {o : Option Prop} (h : toP o) : holdsP o := by cases o <;> exact h
def sub0 (E : Nat) (σ σ' : St) : Prop := match σ'.closed && Nat.ble E σ'.mem.length with
  | true => toP (andO (subTs σ.tmps σ'.tmps) (subMs σ.mem σ'.mem))
  | false => False
def trunc (m : Nat) (β : Bm) : Bm := fun i => if i < m then β i else none
theorem trunc_le (m : Nat) (β : Bm) : (trunc m β).le β := fun i p hp => by
  unfold trunc at hp
  split at hp
  · exact hp
  · cases hp
theorem trunc_on {m : Nat} {l : List Nat} (h : belowB m l = true) (β : Bm) : Bm.on l β (trunc m β) := fun id hid p hp => by
  have := belowB_ok h id hid
  unfold trunc
  rw [if_pos this]; exact hp
/-- objects that stand for others -/
theorem sub_mem {X : Cx} {D : Dx} {β : Bm} {s : S} {a : Act} {w : World} (hB : RepB X D β s a w) {ms ms' : List Ob} (hs : s.blk = fun id => ms[id]?) (hm : holdsP (subMs ms ms')) (hcl : ∀ o ∈ ms', belowB ms'.length o.ids = true) (hG : X.G.length ≤ ms'.length) :
    (∀ id o, ms'[id]? = some o → ∃ p, trunc ms'.length β id = some p ∧ o.ok (trunc ms'.length β) w p ∧ (o.own = true → D.may p)) ∧ (∀ id p, trunc ms'.length β id = some p → ∃ o, ms'[id]? = some o) ∧
    (∀ id id' o o' p p' b, ms'[id]? = some o → ms'[id']? = some o' → o.own = true → o' ≠ .gone → trunc ms'.length β id = some p → trunc ms'.length β id' = some p' → p.foot = some b → p'.foot = some b → id = id') ∧
    (∀ i g, X.G[i]? = some g → trunc ms'.length β i = some (.blk g.1)) := by
  have hm := subMs_get hm
  refine ⟨fun id o ho => ?_, fun id p hp => ?_, fun i i' o o' p p' b ho ho' how hng hp hp' hf hf' => ?_, fun i g hg => ?_⟩
  · obtain ⟨o0, k1, k2⟩ := hm id o ho
    obtain ⟨p, q1, q2, q3⟩ := hB.mem id o0 (by rw [hs]; exact k1)
    obtain ⟨r1, r2⟩ := subO_ok k2 q2
    have hlt : id < ms'.length := (List.getElem?_eq_some_iff.1 ho).1
    refine ⟨p, by unfold trunc; rw [if_pos hlt]; exact q1, Ob.ok_on (trunc_on (hcl o (List.mem_of_getElem? ho)) β) r1, fun how => ?_⟩
    exact q3 (by rw [← (r2 (fun e => by rw [e] at how; cases how)).1]; exact how)
  · unfold trunc at hp
    split at hp
    · rename_i hlt; exact ⟨_, List.getElem?_eq_getElem hlt⟩
    · cases hp
  · obtain ⟨o1, k1, k2⟩ := hm i o ho
    obtain ⟨o2, k3, k4⟩ := hm i' o' ho'
    obtain ⟨pp, q1, q2, _⟩ := hB.mem i o1 (by rw [hs]; exact k1)
    obtain ⟨pp', q3, q4, _⟩ := hB.mem i' o2 (by rw [hs]; exact k3)
    have e1 := (subO_ok k2 q2).2 (fun e => by rw [e] at how; cases how)
    have e2 := (subO_ok k4 q4).2 hng
    exact hB.inj i i' o1 o2 p p' b (by rw [hs]; exact k1) (by rw [hs]; exact k3) (by rw [← e1.1]; exact how) e2.2 (trunc_le _ _ _ _ hp) (trunc_le _ _ _ _ hp') hf hf'
  · obtain ⟨k1, _⟩ := hB.glob i g hg
    have : i < X.G.length := (List.getElem?_eq_some_iff.1 hg).1
    unfold trunc
    rw [if_pos (by omega)]; exact k1
theorem sub0_rep {X : Cx} {D : Dx} {E : Nat} {σ σ' : St} (h : sub0 E σ σ') (hb0 : ∀ i p, D.b0 i = some p → i < E) (hG : X.G.length ≤ E) (hn : σ.tmps.length = X.n) {a : Act} {w : World} (hR : Rep X D (view σ) a w) : Rep X D (view σ') a w ∧ σ'.tmps.length = X.n := by
  unfold sub0 at h
  split at h
  · rename_i hcl
    simp only [Bool.and_eq_true] at hcl
    obtain ⟨hcl, hE⟩ := hcl
    have hE := Nat.le_of_ble_eq_true hE
    unfold St.closed at hcl
    simp only [Bool.and_eq_true, List.all_eq_true] at hcl
    obtain ⟨hc, β, hb, hB⟩ := hR
    obtain ⟨hs1, hs2⟩ := andO_ok (toP_ok h)
    obtain ⟨t1, t2⟩ := subTs_get hs1
    obtain ⟨m1, m2, m3, m4⟩ := sub_mem hB rfl hs2 hcl.2 (by omega)
    refine ⟨⟨hc, trunc σ'.mem.length β, fun i p hp => ?_, ?_⟩, by omega⟩
    · unfold trunc
      rw [if_pos (by have := hb0 i p hp; omega)]; exact hb i p hp
    · refine ⟨hB.size, fun t => ?_, hB.defers, m1, m2, m3, fun i g hg => ?_⟩
      · have h1 := subV_ok (t2 t) (hB.tmps t)
        by_cases htl : t < σ'.tmps.length
        · refine V.rel_on (trunc_on ?_ β) h1
          simp only [view, lget_eq, List.getD_eq_getElem?_getD, List.getElem?_eq_getElem htl, Option.getD_some]
          exact hcl.1 _ (List.getElem_mem htl)
        · simp only [view, lget_eq, List.getD_eq_getElem?_getD, List.getElem?_eq_none (by omega : σ'.tmps.length ≤ t), Option.getD_none]
          trivial
      · obtain ⟨_, k2, k3, k4⟩ := hB.glob i g hg
        exact ⟨m4 i g hg, k2, k3, k4⟩
  · exact h.elim

/-! ### the same state by other numbers -/
def zipIds : List Nat → List Nat → List (Nat × Nat)
  | k :: ks, j :: js => (k, j) :: zipIds ks js
  | _, _ => []
def pairV (a b : V) : List (Nat × Nat) := zipIds a.ids b.ids
def pairTs : List V → List V → List (Nat × Nat)
  | a :: as, b :: bs => pairV a b ++ pairTs as bs
  | _, _ => []
def pairs (hm sm : List Ob) : Nat → List (Nat × Nat) → List (Nat × Nat) → List (Nat × Nat)
  | 0, _, acc => acc
  | _ + 1, [], acc => acc
  | n + 1, p :: r, acc => if acc.any (fun q => Nat.beq q.1 p.1) then pairs hm sm n r acc else (match hm[p.1]?, sm[p.2]? with
    | some o, some o' => pairs hm sm n (zipIds o.ids o'.ids ++ r) (p :: acc)
    | _, _ => pairs hm sm n r acc)
def toOld (ps : List (Nat × Nat)) (k : Nat) : Nat := match ps with
  | [] => k
  | p :: r => if Nat.beq p.1 k then p.2 else toOld r k
def toNew (ps : List (Nat × Nat)) (j : Nat) : Nat := match ps with
  | [] => j
  | p :: r => if Nat.beq p.2 j then p.1 else toNew r j
/-- an old number has a new one -/
def okId (ps : List (Nat × Nat)) (m : Nat) (j : Nat) : Bool := Nat.blt (toNew ps j) m && Nat.beq (toOld ps (toNew ps j)) j
def renT (ps : List (Nat × Nat)) (m : Nat) (v : V) : V := if v.ids.all (okId ps m) then v.ren (toNew ps) else .val (.one .junk)
def takeObs (ps : List (Nat × Nat)) (m : Nat) (sm : List Ob) : Nat → Nat → Option (List Ob)
  | 0, _ => some []
  | n + 1, k => match sm[toOld ps k]? with
    | some o => if o.ids.all (okId ps m) then (match takeObs ps m sm n (k + 1) with | some r => some (o.ren (toNew ps) :: r) | none => none) else none
    | none => none
def distinct : Nat → Nat → List (Nat × Nat) → List Nat → Bool
  | 0, _, _, _ => true
  | n + 1, k, ps, seen => !seen.any (Nat.beq (toOld ps k)) && distinct n (k + 1) ps (toOld ps k :: seen)
def fixedTo (ps : List (Nat × Nat)) : Nat → Bool
  | 0 => true
  | n + 1 => Nat.beq (toOld ps n) n && fixedTo ps n
def renSt (E : Nat) (σ σ' : St) : Option St := match pairs σ'.mem σ.mem 256 (pairTs σ'.tmps σ.tmps) [] with
  | ps => match takeObs ps σ'.mem.length σ.mem σ'.mem.length 0 with
    | some ms => if distinct σ'.mem.length 0 ps [] && fixedTo ps E && Nat.ble E σ'.mem.length then some ⟨σ.tmps.map (renT ps σ'.mem.length), ms⟩ else none
    | none => none
theorem takeObs_ok {ps : List (Nat × Nat)} {m : Nat} {sm : List Ob} : ∀ {n k : Nat} {ms : List Ob}, takeObs ps m sm n k = some ms → ms.length = n ∧ ∀ (i : Nat) (o' : Ob), ms[i]? = some o' → ∃ o, sm[toOld ps (k + i)]? = some o ∧ o.ids.all (okId ps m) = true ∧ o' = o.ren (toNew ps)
  | 0, k, ms, h => by cases h; exact ⟨rfl, fun i o h => by simp at h⟩
  | n + 1, k, ms, h => by
    unfold takeObs at h
    split at h
    · rename_i o ho
      split at h
      · rename_i hok
        split at h
        · rename_i r hr
          cases h
          obtain ⟨k1, k2⟩ := takeObs_ok hr
          refine ⟨by simp [k1], fun i o' hi => ?_⟩
          cases i with
          | zero => simp at hi; subst hi; exact ⟨o, ho, hok, rfl⟩
          | succ i =>
            obtain ⟨o2, q1, q2⟩ := k2 i o' (by simpa using hi)
            exact ⟨o2, by rw [show k + (i + 1) = k + 1 + i by omega]; exact q1, q2⟩
        · cases h
      · cases h
    · cases h
theorem distinct_ok : ∀ {n k : Nat} {ps : List (Nat × Nat)} {seen : List Nat}, distinct n k ps seen = true → (∀ i, k ≤ i → i < k + n → ∀ x ∈ seen, toOld ps i ≠ x) ∧ ∀ i j, k ≤ i → i < k + n → k ≤ j → j < k + n → toOld ps i = toOld ps j → i = j
  | 0, k, ps, seen, _ => ⟨fun i h1 h2 => by omega, fun i j h1 h2 => by omega⟩
  | n + 1, k, ps, seen, h => by
    simp only [distinct, Bool.and_eq_true, Bool.not_eq_true', List.any_eq_false] at h
    obtain ⟨h1, h2⟩ := h
    obtain ⟨k1, k2⟩ := distinct_ok h2
    have hno : ∀ x ∈ seen, toOld ps k ≠ x := fun x hx e => by
      have := h1 x hx
      rw [e, Nat.beq_refl] at this; exact this rfl
    refine ⟨fun i a b x hx => ?_, fun i j a b c d e => ?_⟩
    · rcases Nat.eq_or_lt_of_le a with rfl | hlt
      · exact hno x hx
      · exact k1 i (by omega) (by omega) x (by simp [hx])
    · rcases Nat.eq_or_lt_of_le a with rfl | hi
      · rcases Nat.eq_or_lt_of_le c with rfl | hj
        · rfl
        · exact absurd e.symm (k1 j (by omega) (by omega) _ (by simp))
      · rcases Nat.eq_or_lt_of_le c with rfl | hj
        · exact absurd e (k1 i (by omega) (by omega) _ (by simp))
        · exact k2 i j (by omega) (by omega) (by omega) (by omega) e
theorem fixedTo_ok {ps : List (Nat × Nat)} : ∀ {n : Nat}, fixedTo ps n = true → ∀ i, i < n → toOld ps i = i
  | 0, _, i, h => by omega
  | n + 1, h, i, hi => by
    simp only [fixedTo, Bool.and_eq_true] at h
    by_cases e : i = n
    · subst e; exact Nat.eq_of_beq_eq_true h.1
    · exact fixedTo_ok h.2 i (by omega)
theorem renSt_ok {X : Cx} {D : Dx} {E : Nat} {σ σ' σ2 : St} (h : renSt E σ σ' = some σ2) (hb0 : ∀ i p, D.b0 i = some p → i < E) (hG : X.G.length ≤ E) {a : Act} {w : World} (hR : Rep X D (view σ) a w) : Rep X D (view σ2) a w ∧ σ2.tmps.length = σ.tmps.length := by
  unfold renSt at h
  generalize pairs σ'.mem σ.mem 256 (pairTs σ'.tmps σ.tmps) [] = ps at h
  simp only at h
  split at h
  · rename_i ms hms
    split at h
    · rename_i hc
      simp only [Bool.and_eq_true] at hc
      cases h
      obtain ⟨⟨hd, hf⟩, hE⟩ := hc
      have hE := Nat.le_of_ble_eq_true hE
      obtain ⟨hl, ho⟩ := takeObs_ok hms
      obtain ⟨_, hdis⟩ := distinct_ok hd
      have hfix := fixedTo_ok hf
      obtain ⟨hcg, β, hb, hB⟩ := hR
      let m := σ'.mem.length
      let β2 : Bm := fun k => if k < m then β (toOld ps k) else none
      have hβ2 : ∀ k, k < m → β2 k = β (toOld ps k) := fun k hk => by show (if k < m then _ else _) = _; rw [if_pos hk]
      have hren : ∀ l : List Nat, l.all (okId ps m) = true → RenOn (toNew ps) l β β2 := fun l hl id hid p hp => by
        have h1 := List.all_eq_true.1 hl id hid
        simp only [okId, Bool.and_eq_true] at h1
        have h2 : toNew ps id < m := by simpa using h1.1
        rw [hβ2 _ h2, Nat.eq_of_beq_eq_true h1.2]; exact hp
      have hobj : ∀ id o', ms[id]? = some o' → id < m ∧ ∃ o, σ.mem[toOld ps id]? = some o ∧ o.ids.all (okId ps m) = true ∧ o' = o.ren (toNew ps) := fun id o' hid => by
        have hlt := (List.getElem?_eq_some_iff.1 hid).1
        obtain ⟨o, h1, h2, h3⟩ := ho id o' hid
        rw [Nat.zero_add] at h1
        exact ⟨by omega, o, h1, h2, h3⟩
      refine ⟨⟨hcg, β2, fun i p hp => ?_, ⟨hB.size, fun t => ?_, hB.defers, fun id o' hid => ?_, fun id p hp => ?_, fun i i' o o' p p' b hi hi' how hng hp hp' hff hff' => ?_, fun i g hg => ?_⟩⟩, by simp⟩
      · have := hb0 i p hp
        rw [hβ2 i (by omega), hfix i this]; exact hb i p hp
      · simp only [view, lget_eq, List.getD_eq_getElem?_getD, List.getElem?_map]
        have h1 := hB.tmps t
        simp only [view, lget_eq, List.getD_eq_getElem?_getD] at h1
        cases hv : σ.tmps[t]? with
        | none => simp only [Option.map_none, Option.getD_none]; trivial
        | some v =>
          rw [hv] at h1
          simp only [Option.map_some, Option.getD_some] at h1 ⊢
          unfold renT
          split
          · rename_i hall; exact V.rel_ren (hren _ hall) h1
          · trivial
      · simp only [view] at hid
        obtain ⟨hlt, o, h1, h2, rfl⟩ := hobj id o' hid
        obtain ⟨p, q1, q2, q3⟩ := hB.mem _ o (by simpa [view] using h1)
        exact ⟨p, by rw [hβ2 id hlt]; exact q1, Ob.ok_ren (hren _ h2) q2, fun how => q3 (by rw [Ob.ren_own] at how; exact how)⟩
      · have hp2 : (if id < m then β (toOld ps id) else none) = some p := hp
        split at hp2
        · rename_i hlt; exact ⟨_, by simp only [view]; exact List.getElem?_eq_getElem (by omega)⟩
        · cases hp2
      · simp only [view] at hi hi'
        obtain ⟨l1, o1, h1, _, rfl⟩ := hobj i o hi
        obtain ⟨l2, o2, h2, _, rfl⟩ := hobj i' o' hi'
        rw [hβ2 i l1] at hp
        rw [hβ2 i' l2] at hp'
        rw [Ob.ren_own] at how
        have := hB.inj _ _ o1 o2 p p' b (by simpa [view] using h1) (by simpa [view] using h2) how (Ob.gone_ren _ hng) hp hp' hff hff'
        exact hdis i i' (Nat.zero_le _) (by omega) (Nat.zero_le _) (by omega) this
      · obtain ⟨k1, k2, k3, k4⟩ := hB.glob i g hg
        have : i < X.G.length := (List.getElem?_eq_some_iff.1 hg).1
        exact ⟨by rw [hβ2 i (by omega), hfix i (by omega)]; exact k1, k2, k3, k4⟩
    · cases h
  · cases h
def sub (E : Nat) (σ σ' : St) : Prop := match renSt E σ σ' with
  | some σ2 => sub0 E σ2 σ'
  | none => False
theorem sub_rep {X : Cx} {D : Dx} {E : Nat} {σ σ' : St} (h : sub E σ σ') (hb0 : ∀ i p, D.b0 i = some p → i < E) (hG : X.G.length ≤ E) (hn : σ.tmps.length = X.n) {a : Act} {w : World} (hR : Rep X D (view σ) a w) : Rep X D (view σ') a w ∧ σ'.tmps.length = X.n := by
  unfold sub at h
  split at h
  · rename_i σ2 h2
    obtain ⟨h3, h4⟩ := renSt_ok h2 hb0 hG hR
    exact sub0_rep h hb0 hG (by omega) h3
  · exact h.elim

/-! ### code -/
/-- a loop's invariant: the states at its head, what holds of them, what falls -/
structure Ann where
  X : Type
  st : St → X → St
  I : X → Prop
  μ : X → Nat
/-- the slots that a text writes -/
def assigned : Code → List Nat
  | .region _ ops _ => ops.toList.filterMap (·.dst)
  | .seq a b | .cond _ a b => assigned a ++ assigned b
  | .block _ c | .loop c => assigned c
  | _ => []
noncomputable def junkAt : List Nat → St → St
  | [], σ => σ
  | i :: r, σ => junkAt r ⟨lset (.val (.one .junk)) σ.tmps i, σ.mem⟩
/-- slots and objects in their places -/
noncomputable def setT : List (Nat × V) → St → St
  | [], σ => σ
  | p :: r, σ => setT r ⟨lset p.2 σ.tmps p.1, σ.mem⟩
noncomputable def setM : List (Nat × Ob) → St → St
  | [], σ => σ
  | p :: r, σ => setM r ⟨σ.tmps, lset p.2 σ.mem p.1⟩
def loopsIn : Code → Nat
  | .seq a b | .cond _ a b => loopsIn a + loopsIn b
  | .block _ c => loopsIn c
  | .loop c => loopsIn c + 1
  | _ => 0
noncomputable def gen (P : Program) (G : List (Nat × List L)) (call : CallH) (n E : Nat) (anns : List Ann) : Code → Nat → St → (Out → St → Prop) → Prop
  | .skip, _, σ, K => K .normal σ
  | .label _, _, σ, K => K .normal σ
  | .ret, _, σ, K => K .ret σ
  | .exit id, _, σ, K => K (.exit id) σ
  | .region _ ops d, _, σ, K => genRegion P G call n ops d σ (fun σ' => K .normal σ')
  | .seq x y, k, σ, K => gen P G call n E anns x k σ (fun o σ' => match o with
    | .normal => gen P G call n E anns y (k + loopsIn x) σ' K
    | .ret => K .ret σ'
    | .exit id => K (.exit id) σ')
  | .cond c x y, k, σ, K => match opnd G (view σ) c with
    | some (.val (.one (.bool (.lit true)))) => gen P G call n E anns x k σ K
    | some (.val (.one (.bool (.lit false)))) => gen P G call n E anns y (k + loopsIn x) σ K
    | some (.val (.one (.bool (.tm b)))) => (b = true → gen P G call n E anns x k σ K) ∧ (b = false → gen P G call n E anns y (k + loopsIn x) σ K)
    | _ => False
  | .block id c, k, σ, K => gen P G call n E anns c k σ (fun o σ' => K (inBlk id o) σ')
  | .loop c, k, σ, K => match anns[k]? with
    | some A => (∃ x, A.I x ∧ sub E σ (A.st (junkAt (assigned c) σ) x)) ∧ ∀ x, A.I x → gen P G call n E anns c (k + 1) (A.st (junkAt (assigned c) σ) x) (fun o σ' => match o with
      | .normal => ∃ y, A.I y ∧ A.μ y < A.μ x ∧ sub E σ' (A.st (junkAt (assigned c) σ) y)
      | .ret => K .ret σ'
      | .exit id => K (.exit id) σ')
    | none => False
  | _, _, _, _ => False

theorem least_of {p : Nat → Prop} (h : ∃ m, p m) : ∃ m, p m ∧ ∀ k, p k → m ≤ k := by
  obtain ⟨m, hm⟩ := h
  induction m using Nat.strongRecOn with
  | _ m ih =>
    by_cases hk : ∃ k, k < m ∧ p k
    · obtain ⟨k, h1, h2⟩ := hk; exact ih k h1 h2
    · exact ⟨m, hm, fun k hp => Nat.le_of_not_lt fun hl => hk ⟨k, hl, hp⟩⟩
section
variable {P : Program} {X : Cx}
theorem gen_ok {call : CallH} (hcall : CallHOk P X call) {E : Nat} (hG : X.G.length ≤ E) {anns : List Ann} : ∀ (c : Code) (k : Nat) (σ : St) (K : Out → St → Prop), gen P X.G call X.n E anns c k σ K → σ.tmps.length = X.n →
    ∀ D, (∀ i p, D.b0 i = some p → i < E) → ∀ a w, Rep X D (view σ) a w → c.wp P (fun e a' w' => ∃ o σ', e = o.to ∧ K o σ' ∧ σ'.tmps.length = X.n ∧ Rep X D (view σ') a' w') a w := by
  intro c
  induction c with
  | skip => intro k σ K h hn D hD a w hR; exact wp_skip ⟨.normal, σ, rfl, h, hn, hR⟩
  | label l => intro k σ K h hn D hD a w hR; exact wp_label ⟨.normal, σ, rfl, h, hn, hR⟩
  | ret => intro k σ K h hn D hD a w hR; exact wp_ret ⟨.ret, σ, rfl, h, hn, hR⟩
  | exit id => intro k σ K h hn D hD a w hR; exact wp_exit ⟨.exit id, σ, rfl, h, hn, hR⟩
  | region id ops d =>
    intro k σ K h hn D hD a w hR
    obtain ⟨σ', h1, h2, h3⟩ := genRegion_ok hcall h hn
    exact h3 id _ D a w hR (fun a' w' hR' => ⟨.normal, σ', rfl, h1, h2, hR'⟩)
  | seq x y ihx ihy =>
    intro k σ K h hn D hD a w hR
    refine wp_seq (wp_mono (ihx k σ _ h hn D hD a w hR) ?_)
    rintro e a' w' ⟨o, σ', rfl, h1, h2, h3⟩
    cases o with
    | normal => exact ihy _ σ' K h1 h2 D hD a' w' h3
    | ret => exact ⟨.ret, σ', rfl, h1, h2, h3⟩
    | exit id => exact ⟨.exit id, σ', rfl, h1, h2, h3⟩
  | cond c x y ihx ihy =>
    intro k σ K h hn D hD a w hR
    have hR' := hR
    obtain ⟨_, β, _, hB⟩ := hR'
    simp only [gen] at h
    split at h
    · rename_i hc
      have : a.eval c = .bool true := opnd_ok hB hc
      exact wp_cond this (by rw [if_pos rfl]; exact ihx k σ K h hn D hD a w hR)
    · rename_i hc
      have : a.eval c = .bool false := opnd_ok hB hc
      exact wp_cond this (by simp only [Bool.false_eq_true, if_false]; exact ihy _ σ K h hn D hD a w hR)
    · rename_i b hc
      have : a.eval c = .bool b := opnd_ok hB hc
      refine wp_cond this ?_
      cases hb : b with
      | true => rw [if_pos rfl]; exact ihx k σ K (h.1 hb) hn D hD a w hR
      | false => simp only [Bool.false_eq_true, if_false]; exact ihy _ σ K (h.2 hb) hn D hD a w hR
    · exact h.elim
  | block id c ih =>
    intro k σ K h hn D hD a w hR
    refine wp_block (wp_mono (ih k σ _ h hn D hD a w hR) ?_)
    rintro e a' w' ⟨o, σ', rfl, h1, h2, h3⟩
    cases o with
    | normal => exact ⟨.normal, σ', rfl, h1, h2, h3⟩
    | ret => exact ⟨.ret, σ', rfl, h1, h2, h3⟩
    | exit j =>
      by_cases hj : j = id
      · subst hj
        simp only [inBlk, Nat.beq_refl, if_true] at h1
        simp only [Out.to, Exit.inBlock, if_true]
        exact ⟨.normal, σ', rfl, h1, h2, h3⟩
      · have hb : Nat.beq j id = false := by
          cases hb : Nat.beq j id
          · rfl
          · exact absurd (Nat.eq_of_beq_eq_true hb) hj
        simp only [inBlk, hb, Bool.false_eq_true, if_false] at h1
        simp only [Out.to, Exit.inBlock, if_neg hj]
        exact ⟨.exit j, σ', rfl, h1, h2, h3⟩
  | loop c ih =>
    intro k σ K h hn D hD a w hR
    simp only [gen] at h
    split at h
    · rename_i A hA
      obtain ⟨⟨x0, hI0, hs0⟩, hround⟩ := h
      classical
      let Good : Act → World → Nat → Prop := fun a w m => ∃ x, A.I x ∧ A.μ x = m ∧ Rep X D (view (A.st (junkAt (assigned c) σ) x)) a w ∧ (A.st (junkAt (assigned c) σ) x).tmps.length = X.n
      let μ : Act → World → Nat := fun a w => if h : ∃ m, Good a w m then Classical.choose (least_of h) else 0
      have hμ : ∀ a w m, Good a w m → μ a w ≤ m ∧ Good a w (μ a w) := fun a w m hg => by
        have hex : ∃ m, Good a w m := ⟨m, hg⟩
        simp only [μ, dif_pos hex]
        exact ⟨(Classical.choose_spec (least_of hex)).2 m hg, (Classical.choose_spec (least_of hex)).1⟩
      obtain ⟨r1, r2⟩ := sub_rep hs0 hD hG hn hR
      refine wp_loop (fun a w => ∃ m, Good a w m) μ ⟨_, x0, hI0, rfl, r1, r2⟩ (fun a1 w1 hg => ?_)
      obtain ⟨m, hg⟩ := hg
      obtain ⟨_, x, hI, hx, hRx, hlx⟩ := hμ a1 w1 m hg
      refine wp_mono (ih _ _ _ (hround x hI) hlx D hD a1 w1 hRx) ?_
      rintro e a' w' ⟨o, σ', rfl, h1, h2, h3⟩
      cases o with
      | normal =>
        obtain ⟨y, hy1, hy2, hy3⟩ := h1
        obtain ⟨s1, s2⟩ := sub_rep hy3 hD hG h2 h3
        have hg' : Good a' w' (A.μ y) := ⟨y, hy1, rfl, s1, s2⟩
        exact ⟨⟨_, hg'⟩, by have := (hμ a' w' _ hg').1; omega⟩
      | ret => exact ⟨.ret, σ', rfl, h1, h2, h3⟩
      | exit id => exact ⟨.exit id, σ', rfl, h1, h2, h3⟩
    · exact h.elim
  | _ => intro k σ K h hn D hD a w hR; exact h.elim
end
end Go.Proofs.YtcecdpebapkfaaaHx
namespace Go.Proofs.YtcecdpebapkfaaaHx
open Go Go.RowKit

section
variable {P : Program} {X : Cx}
noncomputable def resW (P : Program) (σ : St) : ResultVar → Option V
  | .tmp t => some ((view σ).tmp t)
  | .cell a ty => match (view σ).tmp a, tyAgg P ty, tySize P ty with
    | .val (.one (.ptr id off)), some true, some n => (match (view σ).blk id with
      | some (.mem _ segs) => (match loadN segs off n with | some ls => some (.val (.agg ls)) | none => none)
      | _ => none)
    | .val (.one (.ptr id off)), some false, some _ => (match (view σ).blk id with
      | some (.mem _ segs) => (match loadCell segs off with | some l => some (.val (.one l)) | none => none)
      | _ => none)
    | _, _, _ => none
noncomputable def resWs (P : Program) (σ : St) : List ResultVar → Option (List V)
  | [] => some []
  | r :: rs => match resW P σ r, resWs P σ rs with
    | some v, some vs => some (v :: vs)
    | _, _ => none
noncomputable def resV (P : Program) (fn : Func) (σ : St) : Option V :=
  match resWs P σ fn.results.toList with
  | some [v] => some v
  | some vs => (match allW vs with | some ws => some (.tup ws) | none => none)
  | none => none
def readRes (ts : Array Value) : ResultVar → Sem Value
  | .tmp t => pure (ts.getD t undef)
  | .cell p ty => do loadVar ty (← asAddr (ts.getD p undef))
theorem resW_ok {D : Dx} {σ : St} {β : Bm} {a : Act} {w : World} (h : RepB X D β (view σ) a w) {r : ResultVar} {v : V} (hv : resW P σ r = some v) :
    ∃ x, v.rel β x ∧ (readRes a.tmps r).run P w = .ok x w := by
  cases r with
  | tmp t => simp only [resW, Option.some.injEq] at hv; subst hv; exact ⟨_, h.tmps t, rfl⟩
  | cell p ty =>
    simp only [resW] at hv
    split at hv
    · rename_i id off n h1 h2 h3
      split at hv
      · rename_i own segs hblk
        split at hv
        · rename_i ls hl
          cases hv
          have ht := h.tmps p
          rw [h1] at ht
          obtain ⟨b, hb, hx⟩ := ht
          obtain ⟨p', k1, k2, _⟩ := h.mem _ _ hblk
          rw [hb] at k1; cases k1
          obtain ⟨q1, q2⟩ := loadN_get hl
          obtain ⟨vs, r1, r2⟩ := loadRun (P := P) (β := β) (w := w) (b := b) n off 0 ls #[] [] q1 (fun j l hj => by
            obtain ⟨y, h1, h2⟩ := loadCell_ok k2.2.1 (q2 j l hj)
            exact ⟨y, by rw [Nat.zero_add] at h1; rw [Nat.add_zero]; exact h1, h2⟩) trivial
          refine ⟨.agg vs, ⟨vs, rfl, by simpa using r2⟩, ?_⟩
          simp only [readRes, hx, asAddr, loadVar, loadCells, Sem.run_bind, Sem.run_pure, tyAgg_ok h2, tySize_ok h3, Result.andThen_ok, if_true, r1]
        · cases hv
      · cases hv
    · rename_i id off n h1 h2 h3
      split at hv
      · rename_i own segs hblk
        split at hv
        · rename_i l hl
          cases hv
          have ht := h.tmps p
          rw [h1] at ht
          obtain ⟨b, hb, hx⟩ := ht
          obtain ⟨p', k1, k2, _⟩ := h.mem _ _ hblk
          rw [hb] at k1; cases k1
          obtain ⟨y, hy, hr⟩ := loadCell_ok k2.2.1 hl
          rw [Nat.zero_add] at hy
          refine ⟨y, hr, ?_⟩
          simp only [readRes, hx, asAddr, loadVar, Sem.run_bind, Sem.run_pure, tyAgg_ok h2, Result.andThen_ok, Bool.false_eq_true, if_false, run_load, hy]
        · cases hv
      · cases hv
    · cases hv
theorem resWs_ok {D : Dx} {σ : St} {β : Bm} {a : Act} {w : World} (h : RepB X D β (view σ) a w) : ∀ {rs : List ResultVar} {vs : List V}, resWs P σ rs = some vs →
    ∃ xs, All2 (V.rel β) vs xs ∧ (rs.mapM (readRes a.tmps)).run P w = .ok xs w
  | [], vs, hv => by simp [resWs] at hv; subst hv; exact ⟨[], trivial, rfl⟩
  | r :: rs, vs, hv => by
    unfold resWs at hv
    split at hv
    · rename_i v vs' h1 h2
      cases hv
      obtain ⟨x, hx, hrun⟩ := resW_ok h h1
      obtain ⟨xs, hxs, hruns⟩ := resWs_ok h h2
      refine ⟨x :: xs, ⟨hx, hxs⟩, ?_⟩
      simp only [List.mapM_cons, Sem.run_bind, hrun, Result.andThen_ok, hruns]
      rfl
    · cases hv
theorem resV_ok {D : Dx} {σ : St} {β : Bm} {a : Act} {w : World} (h : RepB X D β (view σ) a w) {fn : Func} {v : V} (hv : resV P fn σ = some v) :
    ∃ x, v.rel β x ∧ (results fn a.tmps).run P w = .ok x w := by
  have e : ∀ xs, (fn.results.toList.mapM (readRes a.tmps)).run P w = .ok xs w →
      (results fn a.tmps).run P w = .ok (if h : xs.toArray.size = 1 then xs.toArray[0] else .tuple xs.toArray) w := by
    intro xs hxs
    have e1 : results fn a.tmps = (do let vs ← fn.results.mapM (readRes a.tmps); pure (if h : vs.size = 1 then vs[0] else .tuple vs)) := by
      unfold results
      congr 2
    rw [e1, Array.mapM_eq_mapM_toList]
    simp only [Sem.run_bind, Sem.run_map, hxs, Result.andThen_ok]
    rfl
  unfold resV at hv
  split at hv
  · rename_i v' h1
    cases hv
    obtain ⟨xs, hxs, hrun⟩ := resWs_ok h h1
    cases xs with
    | nil => exact hxs.elim
    | cons x xs =>
      cases xs with
      | nil => exact ⟨x, hxs.1, by rw [e _ hrun]; rfl⟩
      | cons _ _ => exact hxs.2.elim
  · rename_i vs hne h1
    split at hv
    · rename_i ws hws
      cases hv
      obtain ⟨xs, hxs, hrun⟩ := resWs_ok h h1
      refine ⟨.tuple xs.toArray, ⟨_, rfl, allW_ok hws hxs⟩, ?_⟩
      rw [e _ hrun]
      have hlen := hxs.length
      have : ¬ xs.toArray.size = 1 := by
        intro h2
        cases vs with
        | nil => simp at hlen h2; omega
        | cons v vs =>
          cases vs with
          | nil => exact hne v rfl
          | cons _ _ => simp at hlen h2; omega
      rw [dif_neg this]
    · cases hv
  · cases hv


/-! ### what a function promises -/
/-- one way of a call: what it supposes, what it needs, what it answers, the objects behind it -/
structure Res where
  g : Option Prop
  need : Option Prop
  v : V
  objs : List Ob
structure Con where
  f : FuncId
  paths : List V → List Ob → Option (List Res)
/-- the tables, as objects -/
def gm (G : List (Nat × List L)) : List Ob := G.map fun g => .mem false [.cells g.2]
structure HeapOk (β : Bm) (M : List Ob) (w : World) : Prop where
  mem : ∀ id o, M[id]? = some o → ∃ p, β id = some p ∧ o.ok β w p
  dom : ∀ id p, β id = some p → ∃ o, M[id]? = some o
  inj : ∀ id id' o o' p p' b, M[id]? = some o → M[id']? = some o' → o.own = true → o' ≠ .gone → β id = some p → β id' = some p' → p.foot = some b → p'.foot = some b → id = id'
def owned (β : Bm) (M : List Ob) (b : Nat) : Prop := ∃ i o p, M[i]? = some o ∧ o.own = true ∧ β i = some p ∧ p.foot = some b
def dOf (β : Bm) (M : List Ob) (w : World) : Dx := ⟨w.heap.size, w, β, owned β M⟩
def GlobOk (G : List (Nat × List L)) (β : Bm) (w : World) : Prop := ∀ i g, G[i]? = some g → β i = some (.blk g.1) ∧ g.1 < w.heap.size ∧ segsOk (fun _ => none) w g.1 0 [.cells g.2]
def CallPost (G : List (Nat × List L)) (β : Bm) (M : List Ob) (w : World) (r : Res) (e : Ending) (w' : World) : Prop :=
  ∃ x β', e = .returned x ∧ β.le β' ∧ HeapOk β' (gm G ++ r.objs) w' ∧ (∀ i o p, (gm G ++ r.objs)[i]? = some o → o.own = true → β' i = some p → (dOf β M w).may p) ∧ r.v.rel β' x ∧ Chg (dOf β M w) w'
def Con.ok (P : Program) (G : List (Nat × List L)) (c : Con) : Prop :=
  ∀ args h l, c.paths args h = some l → ∃ r ∈ l, holdsP r.g ∧ (holdsP r.need → ∀ β xs w, HeapOk β (gm G ++ h) w → GlobOk G β w → All2 (V.rel β) args xs → Calls P c.f xs.toArray w (CallPost G β (gm G ++ h) w r))

/-- the condition of a function's text -/
noncomputable def fnVC (P : Program) (G : List (Nat × List L)) (call : CallH) (anns : List Ann) (fn : Func) (body : Code) (args : List V) (h : List Ob) (r : Res) : Prop :=
  match Nat.ble args.length fn.ntmps && belowB (gm G ++ r.objs).length r.v.ids && (gm G ++ r.objs).all (fun o => belowB (gm G ++ r.objs).length o.ids) && Nat.ble h.length r.objs.length with
  | true => gen P G call fn.ntmps (gm G ++ h).length anns body 0 ⟨args ++ List.replicate (fn.ntmps - args.length) (.val (.one .junk)), gm G ++ h⟩ (fun o σ => match o with
    | .exit _ => False
    | .normal | .ret => match resV P fn σ with
      | none => False
      | some v => toP (andO (subV v r.v) (subMs σ.mem (gm G ++ r.objs))))
  | false => False
theorem fnVC_ok {G : List (Nat × List L)} {call : CallH} {fn : Func} (hcall : CallHOk P ⟨G, fn.ntmps⟩ call) {anns : List Ann} {f : FuncId} {body : Code} (hfn : P.funcs[f]? = some fn) (hb : fn.body = some body) {args : List V} {h : List Ob} {r : Res}
    (hv : fnVC P G call anns fn body args h r) {β : Bm} {xs : List Value} {w : World} (hH : HeapOk β (gm G ++ h) w) (hg : GlobOk G β w) (hx : All2 (V.rel β) args xs) : Calls P f xs.toArray w (CallPost G β (gm G ++ h) w r) := by
  unfold fnVC at hv
  split at hv
  · rename_i hc
    simp only [Bool.and_eq_true, List.all_eq_true] at hc
    obtain ⟨⟨⟨hc1, hc2⟩, hc3⟩, hc4⟩ := hc
    have hc1 := Nat.le_of_ble_eq_true hc1
    have hc4 := Nat.le_of_ble_eq_true hc4
    have hlen := hx.length
    have hgl : (gm G).length = G.length := by simp [gm]
    refine calls_of_wp hfn hb ?_
    have hnog : ∀ (i : Nat) (g : Nat × List L), G[i]? = some g → ¬ owned β (gm G ++ h) g.1 := by
      rintro i g hgi ⟨j, o, p, h1, h2, h3, h4⟩
      have hi : (gm G ++ h)[i]? = some (.mem false [.cells g.2]) := by
        rw [List.getElem?_append_left (by rw [hgl]; exact (List.getElem?_eq_some_iff.1 hgi).1)]
        simp [gm, hgi]
      have := hH.inj j i o _ p (.blk g.1) g.1 h1 hi h2 (fun e => by cases e) h3 (hg i g hgi).1 h4 rfl
      subst this
      rw [h1] at hi
      cases hi; cases h2
    have hR : Rep ⟨G, fn.ntmps⟩ (dOf β (gm G ++ h) w) (view ⟨args ++ List.replicate (fn.ntmps - args.length) (.val (.one .junk)), gm G ++ h⟩)
        { tmps := xs.toArray ++ Array.replicate (fn.ntmps - xs.toArray.size) undef, defers := [] } w := by
      refine ⟨⟨rfl, rfl, rfl, Nat.le_refl _, Nat.le_refl _, fun _ _ _ => rfl⟩, β, Bm.le_refl β, ?_, fun t => ?_, rfl, fun id o ho => ?_, fun id p hp => ?_, fun i i' o o' p p' b ho ho' how hng hp hp' hf hf' => ?_, fun i g hgi => ?_⟩
      · show (xs.toArray ++ Array.replicate (fn.ntmps - xs.toArray.size) undef).size = fn.ntmps
        simp; omega
      · simp only [view, lget_eq, List.getD_eq_getElem?_getD, Array.getD_eq_getD_getElem?]
        by_cases ht : t < args.length
        · obtain ⟨y, hy, hr⟩ := hx.get t _ (List.getElem?_eq_getElem ht)
          rw [List.getElem?_append_left ht, List.getElem?_eq_getElem ht, Array.getElem?_append_left (by simp; omega)]
          have : xs.toArray[t]? = some y := by simpa using hy
          rw [this]
          exact hr
        · rw [List.getElem?_append_right (by omega)]
          have : (List.replicate (fn.ntmps - args.length) (V.val (.one .junk)))[t - args.length]?.getD (.val (.one .junk)) = .val (.one .junk) := by
            rw [List.getElem?_replicate]; split <;> rfl
          rw [this]; trivial
      · obtain ⟨p, k1, k2⟩ := hH.mem id o ho
        exact ⟨p, k1, k2, fun how b hb => .inr ⟨id, o, p, ho, how, k1, hb⟩⟩
      · exact hH.dom id p hp
      · exact hH.inj i i' o o' p p' b ho ho' how hng hp hp' hf hf'
      · obtain ⟨k1, k2, k3⟩ := hg i g hgi
        exact ⟨k1, k2, hnog i g hgi, k3⟩
    have hE : ∀ i p, (dOf β (gm G ++ h) w).b0 i = some p → i < (gm G ++ h).length := fun i p hp => by
      obtain ⟨o, ho⟩ := hH.dom i p hp
      exact (List.getElem?_eq_some_iff.1 ho).1
    refine wp_mono (gen_ok hcall (by simp [hgl]) body 0 _ _ hv (by simp; omega) _ hE _ w hR) ?_
    rintro e a' w' ⟨o, σ, rfl, hK, hn, hR'⟩
    have fin : ∀ v, resV P fn σ = some v → holdsP (subV v r.v) → holdsP (subMs σ.mem (gm G ++ r.objs)) → a'.defers = [] ∧ ∃ x, (results fn a'.tmps).run P w' = .ok x w' ∧ CallPost G β (gm G ++ h) w r (.returned x) w' := by
      intro v h1 h2 h3
      obtain ⟨hchg, β1, hb1, hB⟩ := hR'
      obtain ⟨x, hxr, hrun⟩ := resV_ok hB h1
      obtain ⟨m1, m2, m3, m4⟩ := sub_mem hB rfl h3 (fun o ho => hc3 o ho) (by simp [hgl])
      refine ⟨hB.defers, x, hrun, x, trunc (gm G ++ r.objs).length β1, rfl, fun i p hp => ?_, ⟨fun id o ho => ?_, m2, m3⟩, fun i o p ho how hp => ?_, V.rel_on (trunc_on hc2 β1) (subV_ok h2 hxr), hchg⟩
      · unfold trunc
        have := hE i p hp
        rw [if_pos (by simp at this ⊢; omega)]; exact hb1 i p hp
      · obtain ⟨p, k1, k2, _⟩ := m1 id o ho; exact ⟨p, k1, k2⟩
      · obtain ⟨p', k1, _, k3⟩ := m1 i o ho
        rw [hp] at k1; cases k1
        exact k3 how
    cases o with
    | exit id => exact hK.elim
    | normal =>
      simp only at hK
      split at hK
      · exact hK.elim
      · rename_i v hv'; exact fin v hv' (andO_ok (toP_ok hK)).1 (andO_ok (toP_ok hK)).2
    | ret =>
      simp only at hK
      split at hK
      · exact hK.elim
      · rename_i v hv'; exact fin v hv' (andO_ok (toP_ok hK)).1 (andO_ok (toP_ok hK)).2
  · exact hv.elim
end
end Go.Proofs.YtcecdpebapkfaaaHx
namespace Go.Proofs.YtcecdpebapkfaaaHx
open Go Go.RowKit

/-- a number written out is a term like any other -/
def L.blur : L → L
  | .bool e => .bool (.tm e.v)
  | .int k e => .int k (.tm e.v)
  | l => l
def W.blur : W → W
  | .one l => .one l.blur
  | .agg ls => .agg (ls.map L.blur)
def V.blur : V → V
  | .val w => .val w.blur
  | .tup ws => .tup (ws.map W.blur)
  | .opt c v => .opt c v
def Seg.blur : Seg → Seg
  | .cells ls => .cells (ls.map L.blur)
  | .arr n cols => .arr n cols
def Ob.blur : Ob → Ob
  | .mem own segs => .mem own (segs.map Seg.blur)
  | o => o
theorem L.blur_rel {β : Bm} {l : L} {x : Value} (h : l.rel β x) : l.blur.rel β x := by cases l <;> exact h
theorem W.blur_rel {β : Bm} {w : W} {x : Value} (h : w.rel β x) : w.blur.rel β x := by
  cases w with
  | one l => exact L.blur_rel h
  | agg ls => obtain ⟨cs, h1, h2⟩ := h; exact ⟨cs, h1, all2_map (fun _ _ h => L.blur_rel h) h2⟩
theorem V.blur_rel {β : Bm} {v : V} {x : Value} (h : v.rel β x) : v.blur.rel β x := by
  cases v with
  | val w => exact W.blur_rel h
  | tup ws => obtain ⟨cs, h1, h2⟩ := h; exact ⟨cs, h1, all2_map (fun _ _ h => W.blur_rel h) h2⟩
  | opt c v => exact h
theorem segsOk_blur {β : Bm} {w : World} {b : Nat} : ∀ {segs : List Seg} {off : Nat}, segsOk β w b off segs → segsOk β w b off (segs.map Seg.blur)
  | [], _, _ => trivial
  | .cells ls :: r, off, ⟨h1, h2⟩ => by
    refine ⟨fun j l hl => ?_, by rw [List.length_map]; exact segsOk_blur h2⟩
    simp only [List.getElem?_map] at hl
    cases hl0 : ls[j]? with
    | none => rw [hl0] at hl; cases hl
    | some l0 =>
      rw [hl0] at hl; cases hl
      obtain ⟨x, k1, k2⟩ := h1 j l0 hl0
      exact ⟨x, k1, L.blur_rel k2⟩
  | .arr n cols :: r, off, ⟨h1, h2⟩ => ⟨h1, segsOk_blur h2⟩
theorem Ob.ok_blur {β : Bm} {w : World} : ∀ {o : Ob} {p : Pl}, o.ok β w p → o.blur.ok β w p
  | .mem _own _segs, .blk _b, ⟨h1, h2, h3⟩ => ⟨h1, segsOk_blur h2, h3⟩
  | .mp _ _key _agg _has _cols, .blk _b, hk => hk
  | .vec _own _e _n _cols, .val _x, hk => hk
  | .gone, _, _ => trivial
  | .mem _ _, .val _, h => h.elim
  | .mp _ _ _ _ _, .val _, h => h.elim
  | .vec _ _ _ _, .blk _, h => h.elim
theorem Ob.blur_own (o : Ob) : o.blur.own = o.own := by cases o <;> rfl
theorem Ob.gone_blur {o : Ob} (h : o.blur ≠ .gone) : o ≠ .gone := fun e => h (by rw [e]; rfl)

/-! ### what a call may reach -/
def reach (mem : Nat → Option Ob) : Nat → List Nat → List Nat → List Nat
  | 0, _, acc => acc
  | _ + 1, [], acc => acc
  | n + 1, i :: r, acc => if acc.any (Nat.beq i) then reach mem n r acc else (match mem i with
    | some o => reach mem n (o.ids ++ r) (acc ++ [i])
    | none => reach mem n r acc)
def posOf (l : List Nat) (x : Nat) : Nat := match l with
  | [] => 0
  | y :: r => if Nat.beq y x then 0 else posOf r x + 1
theorem posOf_ok : ∀ {l : List Nat} {x : Nat}, x ∈ l → l[posOf l x]? = some x ∧ posOf l x < l.length
  | y :: r, x, h => by
    unfold posOf
    by_cases e : Nat.beq y x = true
    · rw [if_pos e]; exact ⟨by rw [← Nat.eq_of_beq_eq_true e]; rfl, by simp⟩
    · rw [if_neg e]
      have hm : x ∈ r := by
        rcases List.mem_cons.1 h with h | h
        · rw [h, Nat.beq_refl] at e; exact absurd rfl e
        · exact h
      obtain ⟨h1, h2⟩ := posOf_ok hm
      exact ⟨by simpa using h1, by simpa using h2⟩
def nodupB : List Nat → Bool
  | [] => true
  | x :: r => !r.any (Nat.beq x) && nodupB r
theorem nodupB_ok : ∀ {l : List Nat}, nodupB l = true → ∀ (i j x : Nat), l[i]? = some x → l[j]? = some x → i = j
  | [], _, i, j, x, h, _ => by simp at h
  | y :: r, hn, i, j, x, hi, hj => by
    simp only [nodupB, Bool.and_eq_true, Bool.not_eq_true', List.any_eq_false] at hn
    have hno : ∀ k, r[k]? = some y → False := fun k hk => by
      have := hn.1 y (List.mem_of_getElem? hk)
      rw [Nat.beq_refl] at this; exact this rfl
    cases i with
    | zero =>
      cases j with
      | zero => rfl
      | succ j => simp at hi hj; subst hi; exact (hno j hj).elim
    | succ i =>
      cases j with
      | zero => simp at hi hj; subst hj; exact (hno i hi).elim
      | succ j => simp at hi hj; rw [nodupB_ok hn.2 i j x hi hj]
def objsOf (mem : Nat → Option Ob) : List Nat → Option (List Ob)
  | [] => some []
  | i :: r => match mem i, objsOf mem r with
    | some o, some os => some (o :: os)
    | _, _ => none
theorem objsOf_ok {mem : Nat → Option Ob} : ∀ {l : List Nat} {os : List Ob}, objsOf mem l = some os → os.length = l.length ∧ ∀ (k i : Nat), l[k]? = some i → ∃ o, os[k]? = some o ∧ mem i = some o
  | [], os, h => by cases h; exact ⟨rfl, (fun k i h => by simp at h)⟩
  | i :: r, os, h => by
    unfold objsOf at h
    split at h
    · rename_i o os' h1 h2
      cases h
      obtain ⟨k1, k2⟩ := objsOf_ok h2
      refine ⟨by simp [k1], fun k j hj => ?_⟩
      cases k with
      | zero => simp at hj; subst hj; exact ⟨o, rfl, h1⟩
      | succ k => simpa using k2 k j (by simpa using hj)
    · cases h
/-- the writes of a call: to what was handed in and may be written; to what is new -/
def wrOld (fb : Nat → Nat) : List Nat → List Ob → List Ob → Option (List (Nat × Option Ob))
  | [], _, _ => some []
  | i :: r, o :: os, q :: qs => match o.own with
    | true => (match q with
      | .gone => (match wrOld fb r os qs with | some ws => some ((i, some .gone) :: ws) | none => none)
      | q => if q.own then (match wrOld fb r os qs with | some ws => some ((i, some (q.ren fb)) :: ws) | none => none) else none)
    | false => wrOld fb r os qs
  | _, _, _ => none
def wrNew (fb : Nat → Nat) (fresh : Nat) : List Ob → Option (List (Nat × Option Ob))
  | [] => some []
  | q :: qs => match q with
    | .gone => (match wrNew fb (fresh + 1) qs with | some ws => some ((fresh, some .gone) :: ws) | none => none)
    | q => if q.own then (match wrNew fb (fresh + 1) qs with | some ws => some ((fresh, some (q.ren fb)) :: ws) | none => none) else none
def okObj (o q : Ob) : Prop := o.own = true ∧ (q = .gone ∨ q.own = true)
def WrOldP (fb : Nat → Nat) (I : List Nat) (os qs : List Ob) (ws : List (Nat × Option Ob)) : Prop :=
  (∀ (i : Nat) (v : Option Ob), look ws i = some v → ∃ (k : Nat) (o q : Ob), I[k]? = some i ∧ os[k]? = some o ∧ qs[k]? = some q ∧ v = some (q.ren fb) ∧ okObj o q) ∧
  (∀ (k i : Nat) (o : Ob), I[k]? = some i → os[k]? = some o → o.own = true → ∃ q : Ob, qs[k]? = some q ∧ look ws i = some (some (q.ren fb)))
theorem wrOld_ok {fb : Nat → Nat} : ∀ {I : List Nat} {os qs : List Ob} {ws : List (Nat × Option Ob)}, wrOld fb I os qs = some ws → I.length = os.length → nodupB I = true → WrOldP fb I os qs ws
  | [], os, qs, ws, h, _, _ => by cases h; exact ⟨(fun i v h => by cases h), (fun k i o h => by simp at h)⟩
  | i0 :: r, [], qs, ws, _, hl, _ => by simp at hl
  | i0 :: r, o0 :: os, [], ws, h, _, _ => by simp [wrOld] at h
  | i0 :: r, o0 :: os, q0 :: qs, ws, h, hl, hn => by
    have hn' : nodupB r = true := by simp only [nodupB, Bool.and_eq_true] at hn; exact hn.2
    have hno : ∀ k, r[k]? = some i0 → False := fun k hk => by
      have := nodupB_ok hn 0 (k + 1) i0 rfl (by simpa using hk); omega
    have hl' : r.length = os.length := by simpa using hl
    have skip : wrOld fb r os qs = some ws → o0.own = false → WrOldP fb (i0 :: r) (o0 :: os) (q0 :: qs) ws := fun h1 ho => by
      obtain ⟨k1, k2⟩ := wrOld_ok h1 hl' hn'
      refine ⟨fun i v hv => ?_, fun k i o hi ho' how => ?_⟩
      · obtain ⟨k, o, q, a1, a2, a3, a4, a5⟩ := k1 i v hv
        exact ⟨k + 1, o, q, by simpa using a1, by simpa using a2, by simpa using a3, a4, a5⟩
      · cases k with
        | zero => simp at ho'; subst ho'; rw [ho] at how; cases how
        | succ k => simpa using k2 k i o (by simpa using hi) (by simpa using ho') how
    have take : ∀ ws', wrOld fb r os qs = some ws' → okObj o0 q0 → WrOldP fb (i0 :: r) (o0 :: os) (q0 :: qs) ((i0, some (q0.ren fb)) :: ws') := fun ws' h1 hok => by
      obtain ⟨k1, k2⟩ := wrOld_ok h1 hl' hn'
      refine ⟨fun i v hv => ?_, fun k i o hi ho' how => ?_⟩
      · unfold look at hv
        split at hv
        · rename_i e; cases hv; exact ⟨0, o0, q0, by rw [← Nat.eq_of_beq_eq_true e]; rfl, rfl, rfl, rfl, hok⟩
        · obtain ⟨k, o, q, a1, a2, a3, a4, a5⟩ := k1 i v hv
          exact ⟨k + 1, o, q, by simpa using a1, by simpa using a2, by simpa using a3, a4, a5⟩
      · cases k with
        | zero => simp at hi; subst hi; exact ⟨q0, rfl, by unfold look; rw [Nat.beq_refl]; rfl⟩
        | succ k =>
          have hi' : r[k]? = some i := by simpa using hi
          obtain ⟨q, b1, b2⟩ := k2 k i o hi' (by simpa using ho') how
          refine ⟨q, by simpa using b1, ?_⟩
          unfold look
          have hb : Nat.beq i0 i = false := by
            cases hb : Nat.beq i0 i
            · rfl
            · rw [← Nat.eq_of_beq_eq_true hb] at hi'; exact (hno k hi').elim
          simp only [hb, Bool.false_eq_true, if_false]; exact b2
    unfold wrOld at h
    split at h
    · rename_i ho
      split at h
      · split at h
        · rename_i ws' h1; cases h; exact take ws' h1 ⟨ho, .inl rfl⟩
        · cases h
      · split at h
        · rename_i hq
          split at h
          · rename_i ws' h1; cases h; exact take ws' h1 ⟨ho, .inr hq⟩
          · cases h
        · cases h
    · rename_i ho; exact skip h ho
def WrNewP (fb : Nat → Nat) (fresh : Nat) (qs : List Ob) (ws : List (Nat × Option Ob)) : Prop :=
  (∀ (i : Nat), look ws i = if fresh ≤ i then (qs[i - fresh]?).map (fun q => some (q.ren fb)) else none) ∧ ∀ (k : Nat) (q : Ob), qs[k]? = some q → q = .gone ∨ q.own = true
theorem wrNew_ok {fb : Nat → Nat} : ∀ {qs : List Ob} {fresh : Nat} {ws : List (Nat × Option Ob)}, wrNew fb fresh qs = some ws → WrNewP fb fresh qs ws
  | [], fresh, ws, h => by cases h; exact ⟨(fun i => by simp [look]), (fun k q h => by simp at h)⟩
  | q0 :: qs, fresh, ws, h => by
    have fin : ∀ ws', wrNew fb (fresh + 1) qs = some ws' → (q0 = .gone ∨ q0.own = true) → WrNewP fb fresh (q0 :: qs) ((fresh, some (q0.ren fb)) :: ws') := fun ws' h1 hok => by
      obtain ⟨k1, k2⟩ := wrNew_ok h1
      refine ⟨fun i => ?_, fun k q hq => ?_⟩
      · unfold look
        by_cases e : fresh = i
        · subst e; rw [Nat.beq_refl]; simp
        · have hb : Nat.beq fresh i = false := by
            cases hb : Nat.beq fresh i
            · rfl
            · exact absurd (Nat.eq_of_beq_eq_true hb) e
          simp only [hb, Bool.false_eq_true, if_false]
          rw [k1]
          by_cases hl : fresh ≤ i
          · rw [if_pos hl, if_pos (by omega), show i - fresh = (i - (fresh + 1)) + 1 by omega]; simp
          · rw [if_neg hl, if_neg (by omega)]
      · cases k with
        | zero => simp at hq; subst hq; exact hok
        | succ k => exact k2 k q (by simpa using hq)
    unfold wrNew at h
    split at h
    · split at h
      · rename_i ws' h1; cases h; exact fin ws' h1 (.inl rfl)
      · cases h
    · split at h
      · rename_i hq
        split at h
        · rename_i ws' h1; cases h; exact fin ws' h1 (.inr hq)
        · cases h
      · cases h
end Go.Proofs.YtcecdpebapkfaaaHx
namespace Go.Proofs.YtcecdpebapkfaaaHx
open Go Go.RowKit

def renIn (g : Nat) (I : List Nat) (i : Nat) : Nat := if Nat.blt i g then i else g + posOf I i
def renOut (g : Nat) (I : List Nat) (fresh : Nat) (j : Nat) : Nat := if Nat.blt j g then j else match I[j - g]? with
  | some i => i
  | none => fresh + (j - g - I.length)
def pathsOf (g : Nat) (I : List Nat) (os : List Ob) (fresh : Nat) : List Res → Option (List Path)
  | [] => some []
  | r :: rs => if Nat.ble I.length r.objs.length then (match wrOld (renOut g I fresh) I os (r.objs.take I.length), wrNew (renOut g I fresh) fresh (r.objs.drop I.length), pathsOf g I os fresh rs with
    | some a, some b, some ps => some (⟨r.g, r.need, ⟨r.v.ren (renOut g I fresh), I, a ++ b⟩⟩ :: ps)
    | _, _, _ => none) else none
theorem pathsOf_ok {g : Nat} {I : List Nat} {os : List Ob} {fresh : Nat} : ∀ {rs : List Res} {ps : List Path}, pathsOf g I os fresh rs = some ps → ∀ r ∈ rs, I.length ≤ r.objs.length ∧ ∃ a b, wrOld (renOut g I fresh) I os (r.objs.take I.length) = some a ∧ wrNew (renOut g I fresh) fresh (r.objs.drop I.length) = some b ∧
    (⟨r.g, r.need, ⟨r.v.ren (renOut g I fresh), I, a ++ b⟩⟩ : Path) ∈ ps
  | [], _, _, r, hr => by cases hr
  | r0 :: rs, ps, h, r, hr => by
    unfold pathsOf at h
    split at h
    · rename_i hl
      split at h
      · rename_i a b ps' h1 h2 h3
        cases h
        rcases List.mem_cons.1 hr with rfl | hr
        · exact ⟨Nat.le_of_ble_eq_true hl, a, b, h1, h2, List.mem_cons_self⟩
        · obtain ⟨k1, a', b', k2, k3, k4⟩ := pathsOf_ok h3 r hr
          exact ⟨k1, a', b', k2, k3, List.mem_cons_of_mem _ k4⟩
      · cases h
    · cases h
def callGo (_P : Program) (g : Nat) (c : Con) (args : List V) (s : S) (fresh : Nat) (I : List Nat) : Option (List Path) :=
  match objsOf s.blk I with
  | none => none
  | some os => if nodupB I && I.all (fun i => Nat.ble g i) && Nat.ble g fresh && (args.flatMap V.ids ++ os.flatMap Ob.ids).all (fun i => Nat.blt i g || I.any (Nat.beq i)) then
      (match c.paths (args.map fun v => (v.ren (renIn g I)).blur) (os.map fun o => (o.ren (renIn g I)).blur) with
      | none => none
      | some rs => pathsOf g I os fresh rs) else none
def callOf (P : Program) (G : List (Nat × List L)) (cs : List Con) : CallH := fun f args s fresh =>
  match cs.find? (fun c => Nat.beq c.f f), P.funcs[f]? with
  | some c, some fn => if (fn.name == "runtime.NumGoroutine") || fn.body.isNone then none else
      callGo P G.length c args s fresh (reach (fun i => if Nat.blt i G.length then none else s.blk i) 64 (args.flatMap V.ids) [])
  | _, _ => none

theorem look_append {α : Type} : ∀ (a b : List (Nat × α)) (i : Nat), look (a ++ b) i = (match look a i with
    | some v => some v
    | none => look b i)
  | [], b, i => rfl
  | p :: a, b, i => by
    simp only [List.cons_append, look]
    split
    · rfl
    · exact look_append a b i
section
variable {P : Program} {X : Cx}
theorem call_eff {c : Con} (hc : c.ok P X.G) {args : List V} {s : S} {fresh : Nat} (hfree : ∀ i, fresh ≤ i → s.blk i = none) {I : List Nat} {l : List Path} (h : callGo P X.G.length c args s fresh I = some l)
    {fn : Func} (hfn : P.funcs[c.f]? = some fn) (hname : (fn.name == "runtime.NumGoroutine") = false) (hbody : fn.body.isNone = false) (cl : Call) (x : Operand) (hcl : cl.callee = .value x) :
    PathsOk P X (.call cl) s (.val (.one (.cst (.func (.func c.f) #[] #[]))) :: args) l := by
  unfold callGo at h
  split at h
  · cases h
  · rename_i os hos
    split at h
    · rename_i hchk
      simp only [Bool.and_eq_true, List.all_eq_true] at hchk
      obtain ⟨⟨⟨hnd, hge⟩, hgf⟩, hids⟩ := hchk
      have hgf := Nat.le_of_ble_eq_true hgf
      split at h
      · cases h
      · rename_i rs hrs
        obtain ⟨r, hr, hrg, hrok⟩ := hc _ _ _ hrs
        obtain ⟨hlen, wa, wb, hwa, hwb, hmem⟩ := pathsOf_ok h r hr
        obtain ⟨o1, o2⟩ := objsOf_ok hos
        refine ⟨_, hmem, hrg, fun hneed => ?_⟩
        have hrok := hrok hneed
        obtain ⟨wa1, wa2⟩ := wrOld_ok hwa (by omega) hnd
        obtain ⟨wb1, wb2⟩ := wrNew_ok hwb
        let g := X.G.length
        let m := r.objs.length - I.length
        -- names
        have hIg : ∀ k i : Nat, I[k]? = some i → g ≤ i ∧ i < fresh := fun k i hi => by
          refine ⟨Nat.le_of_ble_eq_true (hge i (List.mem_of_getElem? hi)), ?_⟩
          obtain ⟨o, _, ho⟩ := o2 k i hi
          rcases Nat.lt_or_ge i fresh with h' | h'
          · exact h'
          · rw [hfree i h'] at ho; cases ho
        have hin : ∀ i ∈ args.flatMap V.ids ++ os.flatMap Ob.ids, i < g ∨ ∃ k, I[k]? = some i ∧ renIn g I i = g + k := fun i hi => by
          have := hids i hi
          rw [Bool.or_eq_true] at this
          rcases this with h1 | h1
          · exact .inl (by simpa using h1)
          · obtain ⟨y, hy, he⟩ := List.any_eq_true.1 h1
            have := Nat.eq_of_beq_eq_true he
            subst this
            obtain ⟨k1, k2⟩ := posOf_ok hy
            refine .inr ⟨posOf I i, k1, ?_⟩
            unfold renIn
            have hb : Nat.blt i g = false := by
              cases hb : Nat.blt i g
              · rfl
              · have h3 : i < g := by simpa using hb
                have := (hIg _ _ k1).1; omega
            rw [hb]; rfl
        intro o ho hd D s2 a w hR hargs hrd hwr K Q hK
        obtain ⟨hC, β, hb0, hB⟩ := hR
        have hblkI : ∀ k i : Nat, I[k]? = some i → ∃ o, os[k]? = some o ∧ s2.blk i = some o := fun k i hi => by
          obtain ⟨o, a1, a2⟩ := o2 k i hi
          exact ⟨o, a1, by rw [hrd i (List.mem_of_getElem? hi)]; exact a2⟩
        have hnewfree : ∀ j, fresh ≤ j → j < fresh + m → s2.blk j = none := fun j h1 h2 => by
          have hl : look (wa ++ wb) j ≠ none := by
            rw [look_append, wb1, if_pos h1, List.getElem?_drop]
            have hlt : I.length + (j - fresh) < r.objs.length := by show _ < _; simp only [m] at h2; omega
            rw [List.getElem?_eq_getElem hlt]
            cases look wa j <;> simp
          cases hlk : look (wa ++ wb) j with
          | none => exact absurd hlk hl
          | some v =>
            obtain ⟨p, hp, he⟩ := look_mem hlk
            rw [← he, hwr p hp, he]; exact hfree j h1
        -- the numbers of the one who is called
        let βc : Bm := fun j => if j < g then β j else (I[j - g]?).bind β
        have hβcI : ∀ k i : Nat, I[k]? = some i → βc (g + k) = β i := fun k i hi => by
          show (if g + k < g then _ else (I[g + k - g]?).bind β) = _
          rw [if_neg (by omega), Nat.add_sub_cancel_left, hi]; rfl
        have hβcg : ∀ j, j < g → βc j = β j := fun j hj => by show (if j < g then _ else _) = _; rw [if_pos hj]
        have hren : ∀ l : List Nat, (∀ i ∈ l, i ∈ args.flatMap V.ids ++ os.flatMap Ob.ids) → RenOn (renIn g I) l β βc := fun l hl i hi p hp => by
          rcases hin i (hl i hi) with h1 | ⟨k, h1, h2⟩
          · have e : renIn g I i = i := by unfold renIn; rw [show Nat.blt i g = true from by simpa using h1]; rfl
            rw [e, hβcg i h1]; exact hp
          · rw [h2, hβcI k i h1]; exact hp
        have hgl : (gm X.G).length = g := by simp [gm, g]
        have hM : ∀ j o, (gm X.G ++ os.map (fun o => (o.ren (renIn g I)).blur))[j]? = some o → (j < g ∧ ∃ gg, X.G[j]? = some gg ∧ o = .mem false [.cells gg.2]) ∨ ∃ (k i : Nat) (o0 : Ob), j = g + k ∧ I[k]? = some i ∧ os[k]? = some o0 ∧ s2.blk i = some o0 ∧ o = (o0.ren (renIn g I)).blur := fun j o hj => by
          rcases Nat.lt_or_ge j g with h1 | h1
          · rw [List.getElem?_append_left (by rw [hgl]; exact h1)] at hj
            simp only [gm, List.getElem?_map] at hj
            cases hgg : X.G[j]? with
            | none => rw [hgg] at hj; cases hj
            | some gg => rw [hgg] at hj; cases hj; exact .inl ⟨h1, gg, rfl, rfl⟩
          · rw [List.getElem?_append_right (by rw [hgl]; exact h1), hgl, List.getElem?_map] at hj
            cases hoo : os[j - g]? with
            | none => rw [hoo] at hj; cases hj
            | some o0 =>
              rw [hoo] at hj; cases hj
              have hlt : j - g < I.length := by rw [← o1]; exact (List.getElem?_eq_some_iff.1 hoo).1
              obtain ⟨o', a1, a2⟩ := hblkI _ _ (List.getElem?_eq_getElem hlt)
              rw [hoo] at a1; cases a1
              exact .inr ⟨j - g, _, o0, by omega, List.getElem?_eq_getElem hlt, hoo, a2, rfl⟩
        have hownOld : ∀ b, owned βc (gm X.G ++ os.map (fun o => (o.ren (renIn g I)).blur)) b → ∃ (k i : Nat) (o0 : Ob) (p : Pl), I[k]? = some i ∧ os[k]? = some o0 ∧ s2.blk i = some o0 ∧ o0.own = true ∧ β i = some p ∧ p.foot = some b := by
          rintro b ⟨j, o, p, h1, h2, h3, h4⟩
          rcases hM j o h1 with ⟨_, gg, _, rfl⟩ | ⟨k, i, o0, rfl, q1, q2, q3, rfl⟩
          · cases h2
          · rw [hβcI k i q1] at h3
            rw [Ob.blur_own, Ob.ren_own] at h2
            exact ⟨k, i, o0, p, q1, q2, q3, h2, h3, h4⟩
        have hownMay : ∀ b, owned βc (gm X.G ++ os.map (fun o => (o.ren (renIn g I)).blur)) b → D.B ≤ b ∨ D.F b := fun b hb => by
          obtain ⟨k, i, o0, p, _, _, q3, q4, q5, q6⟩ := hownOld b hb
          obtain ⟨p', r1, _, r3⟩ := hB.mem i o0 q3
          rw [q5] at r1; cases r1
          exact r3 q4 b q6
        have hH : HeapOk βc (gm X.G ++ os.map (fun o => (o.ren (renIn g I)).blur)) w := by
          refine ⟨fun j o hj => ?_, fun j p hj => ?_, fun j j' o o' p p' b hj hj' how hng hp hp' hf hf' => ?_⟩
          · rcases hM j o hj with ⟨h1, gg, h2, rfl⟩ | ⟨k, i, o0, rfl, q1, q2, q3, rfl⟩
            · obtain ⟨k1, k2, k3, k4⟩ := hB.glob j gg h2
              exact ⟨.blk gg.1, by rw [hβcg j h1]; exact k1, by have := Nat.le_trans hC.base hC.size; omega, segsOk_same (fun _ _ h => by cases h) rfl k4, fun h => by cases h⟩
            · obtain ⟨p, r1, r2, _⟩ := hB.mem i o0 q3
              refine ⟨p, by rw [hβcI k i q1]; exact r1, Ob.ok_blur (Ob.ok_ren (hren _ fun id hid => ?_) r2)⟩
              exact List.mem_append_right _ (List.mem_flatMap.2 ⟨o0, List.mem_of_getElem? q2, hid⟩)
          · have hj2 : (if j < g then β j else (I[j - g]?).bind β) = some p := hj
            split at hj2
            · rename_i h1
              exact ⟨_, List.getElem?_eq_getElem (by simp [hgl]; omega)⟩
            · rename_i h1
              cases hI : I[j - g]? with
              | none => rw [hI] at hj2; cases hj2
              | some i =>
                have := (List.getElem?_eq_some_iff.1 hI).1
                exact ⟨_, List.getElem?_eq_getElem (by simp [hgl]; omega)⟩
          · rcases hM j o hj with ⟨_, gg, _, rfl⟩ | ⟨k, i, o0, rfl, q1, q2, q3, rfl⟩
            · cases how
            · rw [Ob.blur_own, Ob.ren_own] at how
              rw [hβcI k i q1] at hp
              rcases hM j' o' hj' with ⟨h1, gg, h2, rfl⟩ | ⟨k', i', o0', rfl, t1, t2, t3, rfl⟩
              · exfalso
                rw [hβcg j' h1, (hB.glob j' gg h2).1] at hp'
                cases hp'; cases hf'
                obtain ⟨p', r1, _, r3⟩ := hB.mem i o0 q3
                rw [hp] at r1; cases r1
                obtain ⟨_, k2, k3, _⟩ := hB.glob j' gg h2
                rcases r3 how gg.1 hf with h | h
                · omega
                · exact k3 h
              · rw [hβcI k' i' t1] at hp'
                have := hB.inj i i' o0 o0' p p' b q3 t3 how (Ob.gone_ren _ (Ob.gone_blur hng)) hp hp' hf hf'
                subst this
                rw [nodupB_ok hnd k k' i q1 t1]
        have hGl : GlobOk X.G βc w := fun j gg hj => by
          obtain ⟨k1, k2, _, k4⟩ := hB.glob j gg hj
          exact ⟨by rw [hβcg j (List.getElem?_eq_some_iff.1 hj).1]; exact k1, by have := Nat.le_trans hC.base hC.size; omega, k4⟩
        -- the run
        obtain ⟨dst, op, type, pos, after, guard⟩ := o
        simp only at ho hd hK ⊢; subst ho
        have e0 : (Op.call cl).operands.toList = x :: cl.args.toList := by simp [Op.operands, Call.operands, hcl]
        have hargs := hargs β hB
        rw [e0] at hargs
        obtain ⟨hx, hargs⟩ := hargs
        have hx : a.eval x = .func (.func c.f) #[] #[] := hx
        have hrun : (execOp a.eval ⟨dst, .call cl, type, pos, after, guard⟩).run P w = .ok (.enter c.f (cl.args.toList.map a.eval).toArray) w := by
          have e : cl.args.map a.eval = (cl.args.toList.map a.eval).toArray := by apply Array.ext'; simp
          simp only [execOp, resolve, hcl, Deferred.ofValue, hx, Sem.run_bind, Sem.run_pure, Result.andThen_ok, invoke, callFunc, run_program, hfn, hname, hbody, Bool.false_eq_true, if_false, Array.empty_append, Array.append_empty, e]
        have hca : All2 (V.rel βc) (args.map fun v => (v.ren (renIn g I)).blur) (cl.args.toList.map a.eval) := by
          have := all2_map (R' := V.rel βc) (f := V.blur) (fun _ _ h => V.blur_rel h) (vs_ren (hren (args.flatMap V.ids) fun i hi => List.mem_append_left _ hi) hargs)
          rw [List.map_map] at this; exact this
        unfold Oper.wp
        rw [hrun]
        simp only [Oper.upon]
        refine (hrok βc (cl.args.toList.map a.eval) w hH hGl hca).mono ?_
        rintro e w' ⟨v, β', rfl, hle, hH', hmay', hv, hC'⟩
        refine hK _ _ ?_
        have hbase := Nat.le_trans hC.base hC.size
        -- the numbers behind it
        let β2 : Bm := fun i => if fresh ≤ i ∧ i < fresh + m then β' (g + I.length + (i - fresh)) else β i
        have hβold : ∀ i p, β i = some p → ¬ (fresh ≤ i ∧ i < fresh + m) := fun i p hp hi => by
          obtain ⟨u, hu⟩ := hB.dom i p hp
          rw [hnewfree i hi.1 hi.2] at hu; cases hu
        have hβ2old : ∀ i, ¬ (fresh ≤ i ∧ i < fresh + m) → β2 i = β i := fun i hi => by show (if _ then _ else _) = _; rw [if_neg hi]
        have hβ2new : ∀ i, fresh ≤ i → i < fresh + m → β2 i = β' (g + I.length + (i - fresh)) := fun i h1 h2 => by show (if _ then _ else _) = _; rw [if_pos ⟨h1, h2⟩]
        have hle2 : β.le β2 := fun i p hp => by rw [hβ2old i (hβold i p hp)]; exact hp
        have hβ'I : ∀ k i p, I[k]? = some i → β' (g + k) = some p → β i = some p := fun k i p hi hp => by
          obtain ⟨o, a1, a2⟩ := hblkI k i hi
          obtain ⟨p', r1, _, _⟩ := hB.mem i o a2
          have := hle (g + k) p' (by rw [hβcI k i hi]; exact r1)
          rw [hp] at this; cases this; exact r1
        have hout : ∀ l : List Nat, RenOn (renOut g I fresh) l β' β2 := fun l j _ p hp => by
          unfold renOut
          by_cases h1 : j < g
          · rw [show Nat.blt j g = true from by simpa using h1]
            simp only [if_true]
            rw [hβ2old j (by omega)]
            cases hgg : X.G[j]? with
            | none => rw [List.getElem?_eq_none_iff] at hgg; exact absurd h1 (by show ¬ j < X.G.length; omega)
            | some gg =>
              have k1 := (hB.glob j gg hgg).1
              have := hle j _ (by rw [hβcg j h1]; exact k1)
              rw [hp] at this; cases this; exact k1
          · have hb : Nat.blt j g = false := by
              cases hb : Nat.blt j g
              · rfl
              · exact absurd (by simpa using hb) h1
            rw [hb]
            simp only [Bool.false_eq_true, if_false]
            cases hI : I[j - g]? with
            | some i =>
              simp only
              have hif := hIg _ _ hI
              rw [hβ2old i (by omega)]
              exact hβ'I (j - g) i p hI (by rw [show g + (j - g) = j by omega]; exact hp)
            | none =>
              simp only
              rw [List.getElem?_eq_none_iff] at hI
              obtain ⟨o, hoj⟩ := hH'.dom j p hp
              have hjl := (List.getElem?_eq_some_iff.1 hoj).1
              simp only [List.length_append, hgl] at hjl
              have hjm : j - g - I.length < m := by simp only [m]; omega
              rw [hβ2new _ (by omega) (by omega), show g + I.length + (fresh + (j - g - I.length) - fresh) = j by omega]
              exact hp
        -- what is written
        have hlook : ∀ i, (look (wa ++ wb) i = none ∧ ¬ (fresh ≤ i ∧ i < fresh + m)) ∨ (∃ (k : Nat) (o0 q : Ob), I[k]? = some i ∧ os[k]? = some o0 ∧ s2.blk i = some o0 ∧ r.objs[k]? = some q ∧ look (wa ++ wb) i = some (some (q.ren (renOut g I fresh))) ∧ okObj o0 q) ∨
            (∃ (j : Nat) (q : Ob), i = fresh + j ∧ j < m ∧ r.objs[I.length + j]? = some q ∧ look (wa ++ wb) i = some (some (q.ren (renOut g I fresh))) ∧ (q = .gone ∨ q.own = true)) := fun i => by
          rw [look_append]
          cases h1 : look wa i with
          | some v =>
            obtain ⟨k, o0, q, a1, a2, a3, rfl, a5⟩ := wa1 i v h1
            obtain ⟨o', b1, b2⟩ := hblkI k i a1
            rw [a2] at b1; cases b1
            rw [List.getElem?_take] at a3
            split at a3
            · exact .inr (.inl ⟨k, o0, q, a1, a2, b2, a3, rfl, a5⟩)
            · cases a3
          | none =>
            simp only
            rw [wb1]
            by_cases h2 : fresh ≤ i
            · rw [if_pos h2, List.getElem?_drop]
              by_cases h3 : i < fresh + m
              · have hlt : I.length + (i - fresh) < r.objs.length := by simp only [m] at h3; omega
                have hq := List.getElem?_eq_getElem hlt
                refine .inr (.inr ⟨i - fresh, _, by omega, by omega, hq, by rw [hq]; rfl, ?_⟩)
                exact wb2 (i - fresh) _ (by rw [List.getElem?_drop]; exact hq)
              · refine .inl ⟨?_, by omega⟩
                rw [List.getElem?_eq_none (by simp only [m] at h3; omega)]; rfl
            · rw [if_neg h2]; exact .inl ⟨rfl, by omega⟩
        have hM' : ∀ k q, r.objs[k]? = some q → (gm X.G ++ r.objs)[g + k]? = some q := fun k q hq => by
          rw [List.getElem?_append_right (by omega), hgl, Nat.add_sub_cancel_left]; exact hq
        have hunch : ∀ i o p, s2.blk i = some o → o ≠ .gone → β i = some p → look (wa ++ wb) i = none → ∀ b, p.foot = some b → w'.heap[b]? = w.heap[b]? := fun i o p h1 h2 h3 h4 b hb => by
          obtain ⟨p', r1, r2, _⟩ := hB.mem i o h1
          rw [h3] at r1; cases r1
          have hlt := Ob.foot_lt r2 h2 b hb
          refine hC'.block b hlt fun hF => ?_
          obtain ⟨k, i', o0, p', q1, q2, q3, q4, q5, q6⟩ := hownOld b hF
          have := hB.inj i' i o0 o p' p b q3 h1 q4 h2 q5 h3 q6 hb
          subst this
          obtain ⟨q, _, hq⟩ := wa2 k i' o0 q1 q2 q4
          rw [look_append, hq] at h4
          cases h4
        have hCw : Chg D w' := hC.later hC'.os hC'.tape hC'.output hC'.size (fun k hk hF => hC'.block k (by show k < w.heap.size; omega) fun hO => by
          rcases hownMay k hO with h1 | h1
          · omega
          · exact hF h1)
        have hblk : ∀ i, upd s2.blk (look (wa ++ wb)) i = match look (wa ++ wb) i with | some v => v | none => s2.blk i := fun i => by cases h : look (wa ++ wb) i <;> simp [upd, h]
        have hRep : RepB X D β2 ⟨s2.tmp, upd s2.blk (look (wa ++ wb))⟩ a w' := by
          refine ⟨hB.size, fun t => V.rel_mono hle2 _ _ (hB.tmps t), hB.defers, fun i o hi => ?_, fun i p hi => ?_, fun i i' o o' p p' b hi hi' how hng hp hp' hf hf' => ?_, fun i gg hgg => ?_⟩
          · simp only [hblk] at hi
            rcases hlook i with ⟨h1, h2⟩ | ⟨k, o0, q, h1, h2, h3, h4, h5, h6, h7⟩ | ⟨j, q, rfl, h2, h3, h4, h5⟩
            · rw [h1] at hi
              obtain ⟨p, r1, r2, r3⟩ := hB.mem i o hi
              refine ⟨p, hle2 i p r1, ?_, r3⟩
              by_cases hg : o = .gone
              · subst hg; exact trivial
              · exact Ob.ok_same hle2 hC'.size r2 (hunch i o p hi hg r1 h1)
            · rw [h5] at hi; cases hi
              obtain ⟨p', t1, t2⟩ := hH'.mem (g + k) q (hM' k q h4)
              obtain ⟨p, r1, _, r3⟩ := hB.mem i o0 h3
              have := hβ'I k i p' h1 t1
              exact ⟨p', hle2 i p' this, Ob.ok_ren (hout _) t2, fun _ => by rw [r1] at this; cases this; exact r3 h6⟩
            · rw [h4] at hi; cases hi
              obtain ⟨p', t1, t2⟩ := hH'.mem (g + (I.length + j)) q (hM' _ q h3)
              refine ⟨p', by rw [hβ2new _ (by omega) (by omega), show g + I.length + (fresh + j - fresh) = g + (I.length + j) by omega]; exact t1, Ob.ok_ren (hout _) t2, fun how => ?_⟩
              rw [Ob.ren_own] at how
              intro b hb
              rcases hmay' _ q p' (hM' _ q h3) how t1 b hb with h | h
              · exact .inl (Nat.le_trans hbase h)
              · exact hownMay b h
          · simp only [hblk]
            have hi2 : (if fresh ≤ i ∧ i < fresh + m then β' (g + I.length + (i - fresh)) else β i) = some p := hi
            rcases hlook i with ⟨h1, h2⟩ | ⟨k, o0, q, h1, h2, h3, h4, h5, h6⟩ | ⟨j, q, rfl, h2, h3, h4, h5⟩
            · rw [if_neg h2] at hi2
              rw [h1]; exact hB.dom i p hi2
            · rw [h5]; exact ⟨_, rfl⟩
            · rw [h4]; exact ⟨_, rfl⟩
          · simp only [hblk] at hi hi'
            -- an object's place among those of the one who was called, or that it is an old one
            rcases hlook i with ⟨h1, h2⟩ | ⟨k, o0, q, h1, h2, h3, h4, h5, h6, h7⟩ | ⟨j, q, rfl, h2, h3, h4, h5⟩
            · -- an old one of one's own that was not handed over
              rw [h1] at hi
              have hpi : β i = some p := by rw [← hβ2old i h2]; exact hp
              rcases hlook i' with ⟨k1, k2⟩ | ⟨k, o0, q, k1, k2, k3, k4, k5, k6, k7⟩ | ⟨j, q, rfl, k2, k3, k4, k5⟩
              · rw [k1] at hi'
                exact hB.inj i i' o o' p p' b hi hi' how hng hpi (by rw [← hβ2old i' k2]; exact hp') hf hf'
              · have hif := hIg _ _ k1
                rw [hβ2old i' (by omega)] at hp'
                exact hB.inj i i' o o0 p p' b hi k3 how (fun e => by rw [e] at k6; cases k6) hpi hp' hf hf'
              · exfalso
                rw [k4] at hi'; cases hi'
                have hqo : q.own = true := k5.resolve_left (Ob.gone_ren _ hng)
                rw [hβ2new _ (by omega) (by omega), show g + I.length + (fresh + j - fresh) = g + (I.length + j) by omega] at hp'
                obtain ⟨pp, r1, r2, _⟩ := hB.mem i o hi
                rw [hpi] at r1; cases r1
                have hlt := Ob.foot_lt r2 (fun e => by rw [e] at how; cases how) b hf
                rcases hmay' _ q p' (hM' _ q k3) hqo hp' b hf' with h | h
                · have : w.heap.size ≤ b := h; omega
                · obtain ⟨k, i0, o1, p1, t1, t2, t3, t4, t5, t6⟩ := hownOld b h
                  have := hB.inj i i0 o o1 p p1 b hi t3 how (fun e => by rw [e] at t4; cases t4) hpi t5 hf t6
                  subst this
                  obtain ⟨q', _, hq'⟩ := wa2 k i o1 t1 t2 t4
                  rw [look_append, hq'] at h1
                  cases h1
            · have hif := hIg _ _ h1
              have hpi : β i = some p := by rw [← hβ2old i (by omega)]; exact hp
              rcases hlook i' with ⟨k1, k2⟩ | ⟨k', o0', q', k1, k2, k3, k4, k5, k6, k7⟩ | ⟨j, q', rfl, k2, k3, k4, k5⟩
              · rw [k1] at hi'
                exact hB.inj i i' o0 o' p p' b h3 hi' h6 hng hpi (by rw [← hβ2old i' k2]; exact hp') hf hf'
              · have hif' := hIg _ _ k1
                rw [hβ2old i' (by omega)] at hp'
                exact hB.inj i i' o0 o0' p p' b h3 k3 h6 (fun e => by rw [e] at k6; cases k6) hpi hp' hf hf'
              · exfalso
                rw [k4] at hi'; cases hi'
                rw [h5] at hi; cases hi
                rw [hβ2new _ (by omega) (by omega), show g + I.length + (fresh + j - fresh) = g + (I.length + j) by omega] at hp'
                have hpk : β' (g + k) = some p := hle (g + k) p (by rw [hβcI k i h1]; exact hpi)
                rw [Ob.ren_own] at how
                have := hH'.inj (g + k) (g + (I.length + j)) q q' p p' b (hM' k q h4) (hM' _ q' k3) how (Ob.gone_ren _ hng) hpk hp' hf hf'
                have := (List.getElem?_eq_some_iff.1 h1).1
                omega
            · rw [h4] at hi; cases hi
              rw [Ob.ren_own] at how
              rw [hβ2new _ (by omega) (by omega), show g + I.length + (fresh + j - fresh) = g + (I.length + j) by omega] at hp
              have hown := hmay' _ q p (hM' _ q h3) how hp b hf
              rcases hlook i' with ⟨k1, k2⟩ | ⟨k', o0', q', k1, k2, k3, k4, k5, k6, k7⟩ | ⟨j', q', rfl, k2, k3, k4, k5⟩
              · exfalso
                rw [k1] at hi'
                rw [hβ2old i' k2] at hp'
                obtain ⟨pp, r1, r2, _⟩ := hB.mem i' o' hi'
                rw [hp'] at r1; cases r1
                have hlt := Ob.foot_lt r2 hng b hf'
                rcases hown with h | h
                · have : w.heap.size ≤ b := h; omega
                · obtain ⟨k, i0, o1, p1, t1, t2, t3, t4, t5, t6⟩ := hownOld b h
                  have := hB.inj i0 i' o1 o' p1 p' b t3 hi' t4 hng t5 hp' t6 hf'
                  subst this
                  obtain ⟨q', _, hq'⟩ := wa2 k i0 o1 t1 t2 t4
                  rw [look_append, hq'] at k1
                  cases k1
              · exfalso
                have hif' := hIg _ _ k1
                rw [k5] at hi'; cases hi'
                rw [hβ2old i' (by omega)] at hp'
                have hpk : β' (g + k') = some p' := hle (g + k') p' (by rw [hβcI k' i' k1]; exact hp')
                have := hH'.inj (g + (I.length + j)) (g + k') q q' p p' b (hM' _ q h3) (hM' k' q' k4) how (Ob.gone_ren _ hng) hp hpk hf hf'
                have := (List.getElem?_eq_some_iff.1 k1).1
                omega
              · rw [k4] at hi'; cases hi'
                rw [hβ2new _ (by omega) (by omega), show g + I.length + (fresh + j' - fresh) = g + (I.length + j') by omega] at hp'
                have := hH'.inj (g + (I.length + j)) (g + (I.length + j')) q q' p p' b (hM' _ q h3) (hM' _ q' k3) how (Ob.gone_ren _ hng) hp hp' hf hf'
                omega
          · obtain ⟨k1, k2, k3, k4⟩ := hB.glob i gg hgg
            refine ⟨hle2 i _ k1, k2, k3, segsOk_same (Bm.le_refl _) (hC'.block gg.1 (by show gg.1 < w.heap.size; omega) fun hO => ?_) k4⟩
            rcases hownMay gg.1 hO with h | h
            · omega
            · exact k3 h
        exact ⟨hCw, β2, Bm.le_trans hb0 hle2, hRep.put hd (V.rel_ren (hout _) hv)⟩
    · cases h
theorem callOf_ok {G : List (Nat × List L)} {n : Nat} {cs : List Con} (hcs : ∀ c ∈ cs, c.ok P G) : CallHOk P ⟨G, n⟩ (callOf P G cs) := by
  intro f args s fresh l h hfree cl x hcl
  unfold callOf at h
  split at h
  · rename_i c fn hc hfn
    split at h
    · cases h
    · rename_i hb
      simp only [Bool.or_eq_true, not_or, Bool.not_eq_true] at hb
      have hf := List.find?_some hc
      have := Nat.eq_of_beq_eq_true hf
      subst this
      exact call_eff (X := ⟨G, n⟩) (hcs c (List.mem_of_find?_eq_some hc)) hfree h hfn hb.1 hb.2 cl x hcl
  · cases h
/-- a function keeps its promise if the condition of its text holds -/
theorem con_ok {G : List (Nat × List L)} {cs : List Con} (hcs : ∀ c ∈ cs, c.ok P G) {c : Con} {fn : Func} {body : Code} (hfn : P.funcs[c.f]? = some fn) (hb : fn.body = some body)
    (H : ∀ args h l, c.paths args h = some l → ∃ r ∈ l, holdsP r.g ∧ (holdsP r.need → ∃ anns, fnVC P G (callOf P G cs) anns fn body args h r)) : c.ok P G := by
  intro args h l hl
  obtain ⟨r, h1, h2, h3⟩ := H args h l hl
  exact ⟨r, h1, h2, fun hn β xs w hH hg hx => let ⟨anns, hv⟩ := h3 hn; fnVC_ok (callOf_ok hcs) hfn hb hv hH hg hx⟩
end
end Go.Proofs.YtcecdpebapkfaaaHx
namespace Go.Proofs.YtcecdpebapkfaaaHx
open Go Go.RowKit Go.ChangeShapes Go.WideShapes Go.Deep

/-! ### kinds -/
inductive CK where
  | int (k : IntKind)
  | bool
inductive AK where
  | one (c : CK)
  | agg (cs : List CK)
  | list (e : TypeId) (bytes : Nat) (cs : List CK)
def ckOf (P : Program) (t : TypeId) : Option CK := match P.underlying t with
  | some .bool => some .bool
  | some (.int k) => some (.int k)
  | _ => none
def cksOf (P : Program) : List TypeId → Option (List CK)
  | [] => some []
  | t :: ts => match ckOf P t, cksOf P ts with
    | some c, some cs => some (c :: cs)
    | _, _ => none
def akList (P : Program) (e : TypeId) : Option AK := match P.underlying e with
  | some (.struct fs) => if oneCellFields P fs && Nat.beq (P.cellsOf e) fs.size then (match cksOf P (fs.toList.map (·.type)) with | some cs => some (.list e (P.bytesOf e) cs) | none => none) else none
  | _ => if Nat.beq (P.cellsOf e) 1 then (match ckOf P e with | some c => some (.list e (P.bytesOf e) [c]) | none => none) else none
def akAgg (P : Program) (t : TypeId) : Option AK := match P.cellTypes P.depth t with
  | some ts => if Nat.beq (P.cellsOf t) ts.length then (match cksOf P ts with | some cs => some (.agg cs) | none => none) else none
  | none => none
def akOf (P : Program) (t : TypeId) : Option AK := match P.underlying t with
  | some (.struct _) | some (.array _ _) => akAgg P t
  | some (.slice e) => akList P e
  | _ => match ckOf P t with
    | some c => some (.one c)
    | none => none
def aksOf (P : Program) : List TypeId → Option (List AK)
  | [] => some []
  | t :: ts => match akOf P t, aksOf P ts with
    | some k, some ks => some (k :: ks)
    | _, _ => none
def CK.l (c : CK) (l : L) : Prop := match c with
  | .int k => ∃ n : Int, l = .int k (.tm n) ∧ k.min ≤ n ∧ n ≤ k.max
  | .bool => ∃ b : Bool, l = .bool (.tm b)
def CK.col (n : Nat) (c : CK) (col : Col) : Prop := match c with
  | .int k => ∃ f : Nat → Int, col = .ints k f ∧ ∀ i, i < n → k.min ≤ f i ∧ f i ≤ k.max
  | .bool => ∃ f : Nat → Bool, col = .bools f
def shapes : List AK → Nat → List V → List Ob → Prop
  | [], _, vs, h => vs = [] ∧ h = []
  | .one c :: ks, id, vs, h => ∃ l vs', vs = .val (.one l) :: vs' ∧ c.l l ∧ shapes ks id vs' h
  | .agg cs :: ks, id, vs, h => ∃ ls vs', vs = .val (.agg ls) :: vs' ∧ All2 CK.l cs ls ∧ shapes ks id vs' h
  | .list e bytes cs :: ks, id, vs, h => ∃ n cols vs' h', vs = .val (.one (.vec id)) :: vs' ∧ h = .vec false e n cols :: h' ∧ n * bytes ≤ 140737488351232 ∧ All2 (CK.col n) cs cols ∧ shapes ks (id + 1) vs' h'

section
variable {P : Program} {w : World}
theorem ck_cell {r : Reach} {base : Nat} {t : TypeId} {c : CK} (hc : ckOf P t = some c) {x : Value} (hx : Cell.okWide P w r base t x) : ∃ l, c.l l ∧ ∀ β : Bm, l.rel β x := by
  unfold ckOf at hc
  split at hc
  · rename_i ht
    cases hc
    unfold Cell.okWide at hx
    split at hx <;> simp_all [Cell.ok]
    split at hx <;> simp_all
    rename_i b
    exact ⟨.bool (.tm b), ⟨b, rfl⟩, fun β => rfl⟩
  · rename_i k ht
    cases hc
    unfold Cell.okWide at hx
    rw [ht] at hx
    have h2 : Cell.ok P w r base t x := by split at hx <;> first | exact hx | simp_all
    unfold Cell.ok at h2
    rw [ht] at h2
    cases x <;> simp only at h2
    rename_i k' n
    obtain ⟨rfl, h3⟩ := h2
    exact ⟨.int k' (.tm n), ⟨n, rfl, h3⟩, fun β => rfl⟩
  · cases hc
theorem ck_cells {r : Reach} {base : Nat} : ∀ {ts : List TypeId} {cs : List CK}, cksOf P ts = some cs → ∀ xs : List Value, xs.length = ts.length → (∀ (i : Nat) v, xs[i]? = some v → ∃ u, ts[i]? = some u ∧ Cell.okWide P w r base u v) →
    ∃ ls, All2 CK.l cs ls ∧ ∀ β : Bm, All2 (L.rel β) ls xs
  | [], cs, h, xs, hl, _ => by
    cases h
    cases xs with
    | nil => exact ⟨[], trivial, fun _ => trivial⟩
    | cons _ _ => simp at hl
  | t :: ts, cs, h, xs, hl, hx => by
    unfold cksOf at h
    split at h
    · rename_i c cs' h1 h2
      cases h
      cases xs with
      | nil => simp at hl
      | cons v xs =>
        obtain ⟨u, hu, hok⟩ := hx 0 v rfl
        simp at hu; subst hu
        obtain ⟨l, a1, a2⟩ := ck_cell h1 hok
        obtain ⟨ls, b1, b2⟩ := ck_cells h2 xs (by simpa using hl) (fun i v hi => by simpa using hx (i + 1) v (by simpa using hi))
        exact ⟨l :: ls, ⟨a1, b1⟩, fun β => ⟨a2 β, b2 β⟩⟩
    · cases h
theorem wf_int {k : IntKind} {n : Int} (h : (Lit.int k n).wf = true) : k.min ≤ n ∧ n ≤ k.max := by
  simpa [Lit.wf, Bool.and_eq_true] using h
theorem ck_trod {H : Type} {enc : TypeId × Value → H} {base : Nat} {spare : Nat → Bool} {held : Bool} {t : TypeId} {c : CK} (hc : ckOf P t = some c) {fuel : Nat} {x : Value} {y : DataW H × List MemPlace} (hx : DataW.trod enc P w base spare held fuel t [x] = some y) : ∃ l, c.l l ∧ ∀ β : Bm, l.rel β x := by
  unfold ckOf at hc
  split at hc
  · rename_i ht
    cases hc
    obtain ⟨b, h1, _⟩ := DataW.trod_bool ht hx
    cases h1
    exact ⟨.bool (.tm b), ⟨b, rfl⟩, fun β => rfl⟩
  · rename_i k ht
    cases hc
    obtain ⟨n, h1, _, h3⟩ := DataW.trod_int ht hx
    cases h1
    exact ⟨.int k (.tm n), ⟨n, rfl, wf_int h3⟩, fun β => rfl⟩
  · cases hc
/-- a column that stands for a row's cells -/
theorem ck_col {c : CK} {n : Nat} {V : Nat → Value} (h : ∀ i, i < n → ∃ l, c.l l ∧ ∀ β : Bm, l.rel β (V i)) : ∃ col, CK.col n c col ∧ ∀ i, i < n → Col.rel col i (V i) := by
  cases c with
  | int k =>
    refine ⟨.ints k (fun i => match V i with | .int _ m => m | _ => 0), ⟨_, rfl, fun i hi => ?_⟩, fun i hi => ?_⟩
    · obtain ⟨l, ⟨m, rfl, hm⟩, hr⟩ := h i hi
      have := hr (fun _ => none)
      simp only [L.rel, N.v] at this
      rw [this]; exact hm
    · obtain ⟨l, ⟨m, rfl, hm⟩, hr⟩ := h i hi
      have := hr (fun _ => none)
      simp only [L.rel, N.v] at this
      simp only [Col.rel, this]
  | bool =>
    refine ⟨.bools (fun i => match V i with | .bool b => b | _ => false), ⟨_, rfl⟩, fun i hi => ?_⟩
    obtain ⟨l, ⟨b, rfl⟩, hr⟩ := h i hi
    have := hr (fun _ => none)
    simp only [L.rel, B.v] at this
    simp only [Col.rel, this]
theorem ck_cols {n : Nat} {V : Nat → Nat → Value} : ∀ {cs : List CK} (j0 : Nat), (∀ (j : Nat) c, cs[j]? = some c → ∀ i, i < n → ∃ l, c.l l ∧ ∀ β : Bm, l.rel β (V (j0 + j) i)) →
    ∃ cols, All2 (CK.col n) cs cols ∧ cols.length = cs.length ∧ ∀ (j : Nat) c, cols[j]? = some c → ∀ i, i < n → Col.rel c i (V (j0 + j) i)
  | [], _, _ => ⟨[], trivial, rfl, fun j c h => by simp at h⟩
  | c :: cs, j0, h => by
    obtain ⟨col, a1, a2⟩ := ck_col (n := n) (V := V (j0 + 0)) (h 0 c rfl)
    obtain ⟨cols, b1, b2, b3⟩ := ck_cols (n := n) (V := V) (cs := cs) (j0 + 1) (fun j c hj i hi => by
      have := h (j + 1) c (by simpa using hj) i hi
      rwa [show j0 + (j + 1) = j0 + 1 + j by omega] at this)
    refine ⟨col :: cols, ⟨a1, b1⟩, by simp [b2], fun j c hj i hi => ?_⟩
    cases j with
    | zero => simp at hj; subst hj; exact a2 i hi
    | succ j => rw [show j0 + (j + 1) = j0 + 1 + j by omega]; exact b3 j c (by simpa using hj) i hi
theorem cks_get : ∀ {ts : List TypeId} {cs : List CK}, cksOf P ts = some cs → cs.length = ts.length ∧ ∀ (j : Nat) t, ts[j]? = some t → ∃ c, cs[j]? = some c ∧ ckOf P t = some c
  | [], cs, h => by cases h; exact ⟨rfl, fun j t h => by simp at h⟩
  | t0 :: ts, cs, h => by
    unfold cksOf at h
    split at h
    · rename_i c cs' h1 h2
      cases h
      obtain ⟨a, b⟩ := cks_get h2
      refine ⟨by simp [a], fun j t hj => ?_⟩
      cases j with
      | zero => simp at hj; subst hj; exact ⟨c, rfl, h1⟩
      | succ j => simpa using b j t (by simpa using hj)
    · cases h
variable {H : Type} {enc : TypeId × Value → H}
/-- the argument that is a list -/
structure ListArg (P : Program) (w : World) (e : TypeId) (bytes : Nat) (cs : List CK) (x : Value) (d : DataW H) : Prop where
  ex : ∃ n cols, All2 (CK.col n) cs cols ∧ (Ob.vec false e n cols).ok (fun _ => none) w (.val x) ∧ (∃ a m c, x = .slice a m c) ∧ (n = 0 ∨ ∃ elems rest, d = .slice elems rest ∧ elems.length = n)
theorem addr_at (b o n : Nat) : (⟨b, o, none⟩ : Addr).add n = ⟨b, o + n, none⟩ := by
  unfold Addr.add; split
  · rename_i h; subst h; rfl
  · rfl
theorem list_arg {r : Reach} {base b2 : Nat} {sp : Nat → Bool} {held : Bool} {t e : TypeId} {bytes : Nat} {cs : List CK} {k : AK} (ht : P.underlying t = some (.slice e)) (hk : akList P e = some k) (hke : k = .list e bytes cs) {x : Value} {d : DataW H} {p : List MemPlace}
    (hx : Value.okWide P w r base t x) (h : DataW.Trod enc P w b2 sp held t x d p) : ListArg (H := H) P w e bytes cs x d := by
  obtain ⟨a0, len0, cap0, rfl⟩ := okWide_slice ht hx
  have hcell : Cell.okWide P w r base t (.slice a0 len0 cap0) := by
    unfold Value.okWide at hx; rw [ht] at hx; exact hx
  have hspot : ∀ a, a0 = some a → a.spot = none ∧ a.block < w.heap.size := by
    rintro a rfl
    unfold Cell.okWide at hcell
    rw [ht] at hcell
    simp only [Cell.ok, ht] at hcell
    obtain ⟨_, _, _, h2, row, cells, h3, _⟩ := hcell
    refine ⟨h2, ?_⟩
    have hne : w.heap[a.block]? ≠ none := by intro hn; simp [World.shape?, hn] at h3
    by_cases hl : a.block < w.heap.size
    · exact hl
    · exact absurd (Array.getElem?_eq_none (Nat.le_of_not_lt hl)) hne
  obtain ⟨fuel, hf⟩ := h
  have hcl : (Value.slice a0 len0 cap0).cells.toList = [.slice a0 len0 cap0] := rfl
  rw [hcl] at hf
  subst hke
  have fin : ∀ (W0 : Nat → Nat → Value), (∀ a, a0 = some a → ∀ i, i < len0 → ∀ j, j < cs.length → w.cell? (a.add (i * cs.length + j)) = some (W0 j i)) → (∀ (j : Nat) c, cs[j]? = some c → ∀ i, i < len0 → ∃ l, c.l l ∧ ∀ β : Bm, l.rel β (W0 j i)) →
      (a0 = none → len0 = 0) → len0 ≤ cap0 → cap0 ≤ maxLen → (len0 = 0 ∨ ∃ elems rest, d = .slice elems rest ∧ elems.length = len0) → ListArg (H := H) P w e bytes cs (.slice a0 len0 cap0) d := by
    intro W0 h1 h2 h3 h4 h5 h6
    obtain ⟨cols, c1, c2, c3⟩ := ck_cols (n := len0) (V := W0) (cs := cs) 0 (fun j c hj i hi => by rw [Nat.zero_add]; exact h2 j c hj i hi)
    refine ⟨len0, cols, c1, ?_, ⟨_, _, _, rfl⟩, h6⟩
    have hm : len0 ≤ 9223372036854775807 := by unfold maxLen at h5; omega
    cases ha : a0 with
    | none =>
      have := h3 ha
      subst this
      exact ⟨hm, .inl ⟨cap0, rfl, rfl, fun h => by cases h⟩⟩
    | some a =>
      obtain ⟨s1, s2⟩ := hspot a ha
      obtain ⟨ab, ao, asp⟩ := a
      simp only at s1; subst s1
      refine ⟨hm, .inr ⟨ab, ao, cap0, rfl, s2, h4, fun i hi j c hj => ?_, fun h => by cases h⟩⟩
      have hjl : j < cs.length := by rw [← c2]; exact (List.getElem?_eq_some_iff.1 hj).1
      refine ⟨W0 j i, ?_, by have := c3 j c hj i hi; rwa [Nat.zero_add] at this⟩
      have := h1 _ ha i hi j hjl
      rw [addr_at] at this
      rw [c2, Nat.add_assoc]; exact this
  unfold akList at hk
  split at hk
  · rename_i fs he
    split at hk
    · rename_i hc
      simp only [Bool.and_eq_true] at hc
      have hC := Nat.eq_of_beq_eq_true hc.2
      split at hk
      · rename_i cs' hcs
        cases hk
        obtain ⟨g1, g2⟩ := cks_get hcs
        have g1' : cs.length = fs.size := by rw [g1]; simp
        rcases open_slice ht hf with ⟨h0, hd⟩ | ⟨a, len, cap, m, n, D, Pl, hcs', hb, hl, hm, hmm, hx', hi⟩
        · cases h0
          exact fin (fun _ _ => default) (fun a h => by cases h) (fun j c _ i hi => by omega) (fun _ => rfl) (Nat.le_refl _) (by decide) (.inl rfl)
        · cases hcs'
          have hlm : len0 ≤ m := by rw [hmm]; split <;> omega
          refine fin (fun j i => (w.cell? (a.add (i * cs.length + j))).getD default) (fun a' ha i hi' j hj => ?_) (fun j c hj i hi' => ?_) (fun h => by cases h) hl hm (.inr ⟨_, _, by cases hx'; rfl, by simp⟩)
          · cases ha
            obtain ⟨cs', q1, q2⟩ := hi i (by omega)
            rw [hC] at q1
            obtain ⟨_, qcl, hat⟩ := World.cells?_some q1
            have := hat j (by omega)
            rw [Go.Deep.add_add] at this
            rw [g1', this]
            have : cs'[j]? = some (cs'[j]'(by omega)) := List.getElem?_eq_getElem (by omega)
            rw [this]; rfl
          · obtain ⟨cs', q1, q2⟩ := hi i (by omega)
            rw [hC] at q1
            obtain ⟨_, qcl, hat⟩ := World.cells?_some q1
            have hjl : j < fs.size := by rw [← g1']; exact (List.getElem?_eq_some_iff.1 hj).1
            have hcj := hat j hjl
            rw [Go.Deep.add_add] at hcj
            have hv : cs'[j]? = some (cs'[j]'(by omega)) := List.getElem?_eq_getElem (by omega)
            rw [hv] at hcj
            obtain ⟨ys, n', hn', hy, hlen, hyl, hff⟩ := DataW.trod_struct he q2
            have hfj : fs[j]? = some (fs[j]'hjl) := Array.getElem?_eq_getElem hjl
            obtain ⟨ho, hk2⟩ := hone_of hc.1 j _ hfj
            have h1 := hff j _ hfj
            rw [ho, hk2] at h1
            have hone' : (cs'.drop j).take 1 = [cs'[j]'(by omega)] := by
              rw [List.drop_eq_getElem_cons (by omega)]
              rfl
            rw [hone'] at h1
            have hys : ys[j]? = some (ys[j]'(by omega)) := List.getElem?_eq_getElem (by omega)
            obtain ⟨c', e1, e2⟩ := g2 j (fs[j]'hjl).type (by simp [hjl])
            rw [hj] at e1; cases e1
            simp only [g1', hcj, Option.getD_some]
            exact ck_trod e2 (h1.trans hys)
      · cases hk
    · cases hk
  · split at hk
    · rename_i hc
      have hC := Nat.eq_of_beq_eq_true hc
      split at hk
      · rename_i c hcs
        cases hk
        rcases open_slice1 ht hC hf with ⟨h0, hd⟩ | ⟨a, len, cap, m, n, V, D, Pl, hcs', hb, hl, hm, hmm, hx', hi⟩
        · cases h0
          exact fin (fun _ _ => default) (fun a h => by cases h) (fun j c _ i hi => by omega) (fun _ => rfl) (Nat.le_refl _) (by decide) (.inl rfl)
        · cases hcs'
          have hlm : len0 ≤ m := by rw [hmm]; split <;> omega
          refine fin (fun _ i => V i) (fun a' ha i hi' j hj => ?_) (fun j c' hj i hi' => ?_) (fun h => by cases h) hl hm (.inr ⟨_, _, by cases hx'; rfl, by simp⟩)
          · cases ha
            have : j = 0 := by simpa using hj
            subst this
            simpa using (hi i (by omega)).1
          · have : j = 0 := by have := (List.getElem?_eq_some_iff.1 hj).1; simpa using this
            subst this
            simp at hj; subst hj
            exact ck_trod hcs (hi i (by omega)).2
      · cases hk
    · cases hk
end

/-! ### all arguments -/
structure ArgsOk (P : Program) (w : World) (ks : List AK) (id : Nat) (xs : List Value) (vs : List V) (h : List Ob) (pl : List Pl) : Prop where
  sh : shapes ks id vs h
  len : pl.length = h.length
  rel : ∀ β : Bm, (∀ (i : Nat) (p : Pl), pl[i]? = some p → β (id + i) = some p) → All2 (V.rel β) vs xs
  ok : ∀ (β : Bm) (i : Nat) (o : Ob) (p : Pl), h[i]? = some o → pl[i]? = some p → o.ok β w p
  own : ∀ o ∈ h, o.own = false
theorem vec_any {β β' : Bm} {w : World} {own : Bool} {e : TypeId} {n : Nat} {cols : List Col} {p : Pl} (h : (Ob.vec own e n cols).ok β w p) : (Ob.vec own e n cols).ok β' w p := by
  cases p with
  | blk _ => exact h.elim
  | val x => exact h
theorem args_ok {P : Program} {w : World} {H : Type} {enc : TypeId × Value → H} {r : Reach} {base b2 : Nat} {sp : Nat → Bool} {held : Bool} : ∀ {ts : List TypeId} {ks : List AK}, aksOf P ts = some ks → ∀ (id : Nat) (xs : List Value) (ds : List (DataW H)) (ps : List MemPlace),
    (∀ (j : Nat) t v, ts[j]? = some t → xs[j]? = some v → Value.okWide P w r base t v) → DataW.TrodAll enc P w b2 sp held ts xs ds ps → (DataW.weightsEach P ts ds).all (· ≤ reachBytes) = true →
    ∃ vs h pl, ArgsOk P w ks id xs vs h pl
  | [], ks, hk, id, xs, ds, ps, _, hA, _ => by
    cases hk
    cases xs with
    | nil => exact ⟨[], [], [], ⟨rfl, rfl⟩, rfl, fun _ _ => trivial, fun β i o p h => by simp at h, fun o h => by cases h⟩
    | cons _ _ => cases ds <;> exact hA.elim
  | t :: ts, ks, hk, id, xs, ds, ps, hv, hA, hsz => by
    unfold aksOf at hk
    split at hk
    · rename_i k ks' h1 h2
      cases hk
      match xs, ds, hA with
      | x :: xs, d :: ds, hA =>
        obtain ⟨p, q, hp, hq, rfl⟩ := hA
        have hx := hv 0 t x rfl rfl
        have hsz2 : (DataW.weightsEach P ts ds).all (· ≤ reachBytes) = true := by
          simp only [DataW.weightsEach, List.all_append, Bool.and_eq_true] at hsz; exact hsz.2
        have rec' := fun id => args_ok h2 id xs ds q (fun j t v a b => hv (j + 1) t v (by simpa using a) (by simpa using b)) hq hsz2
        have one : ∀ v, (∀ vs h, shapes ks' id vs h → shapes (k :: ks') id (v :: vs) h) → (∀ β : Bm, v.rel β x) → ∃ vs h pl, ArgsOk P w (k :: ks') id (x :: xs) vs h pl := fun v hs hr => by
          obtain ⟨vs, h, pl, a⟩ := rec' id
          exact ⟨v :: vs, h, pl, hs _ _ a.sh, a.len, fun β hb => ⟨hr β, a.rel β hb⟩, a.ok, a.own⟩
        have agg : akAgg P t = some k → (∃ cs, x = .agg cs ∧ cs.size = P.cellsOf t ∧ Row.okWide P w r base t cs) → ∃ vs h pl, ArgsOk P w (k :: ks') id (x :: xs) vs h pl := by
          rintro hk ⟨cs, rfl, hs, tys, hts, _, hcell⟩
          unfold akAgg at hk
          rw [hts] at hk
          simp only at hk
          split at hk
          · rename_i hb
            have hb := Nat.eq_of_beq_eq_true hb
            split at hk
            · rename_i cks hcks
              cases hk
              obtain ⟨ls, g1, g2⟩ := ck_cells hcks cs.toList (by rw [← hb, ← hs]; simp) (fun i v hi => by
                have hi' : cs[i]? = some v := by simpa using hi
                obtain ⟨u, hu, hok⟩ := hcell i v hi'
                have hlt : i < tys.length := by rw [← hb, ← hs]; exact (Array.getElem?_eq_some_iff.1 hi').1
                rw [Nat.mod_eq_of_lt hlt] at hu
                exact ⟨u, hu, hok⟩)
              exact one (.val (.agg ls)) (fun vs h hh => ⟨ls, vs, rfl, g1, hh⟩) (fun β => ⟨cs, rfl, g2 β⟩)
            · cases hk
          · cases hk
        unfold akOf at h1
        have hx0 := hx
        unfold Value.okWide at hx
        split at h1
        · rename_i ht; rw [ht] at hx; exact agg h1 hx
        · rename_i ht; rw [ht] at hx; exact agg h1 hx
        · rename_i e ht
          obtain ⟨bytes, cs, hke⟩ : ∃ bytes cs, k = .list e bytes cs := by
            have h1' := h1
            unfold akList at h1'
            split at h1' <;> (split at h1' <;> (try cases h1') <;> (split at h1' <;> cases h1'; exact ⟨_, _, rfl⟩))
          have hby : bytes = P.bytesOf e := by
            subst hke
            have h1' := h1
            unfold akList at h1'
            split at h1' <;> (split at h1' <;> (try cases h1') <;> (split at h1' <;> cases h1'; rfl))
          obtain ⟨n, cols, c1, c2, ⟨a, m, c, rfl⟩, c3⟩ := list_arg ht h1 hke hx0 hp
          obtain ⟨vs, h, pl, A⟩ := rec' (id + 1)
          have hsize : n * bytes ≤ 140737488351232 := by
            rcases c3 with rfl | ⟨elems, rest, hd, hl⟩
            · simp
            · have := sized_slice hsz (j := 0) (t := t) (e := e) (elems := elems) (spare := rest) rfl (by rw [← hd]; rfl) ht
              rw [hl, ← hby] at this
              have h3 : n * bytes ≤ (n + rest.length) * bytes := Nat.mul_le_mul_right _ (by omega)
              unfold reachBytes at this
              omega
          subst hke
          refine ⟨.val (.one (.vec id)) :: vs, .vec false e n cols :: h, .val (.slice a m c) :: pl, ⟨n, cols, vs, h, rfl, rfl, hsize, c1, A.sh⟩, by simp [A.len], fun β hb => ⟨?_, A.rel β (fun i p hi => ?_)⟩, fun β i o p ho hp => ?_, fun o ho => ?_⟩
          · have := hb 0 _ rfl
            exact ⟨this, a, m, c, rfl⟩
          · have := hb (i + 1) p (by simpa using hi)
            rwa [show id + (i + 1) = id + 1 + i by omega] at this
          · cases i with
            | zero => simp at ho hp; subst ho; subst hp; exact vec_any c2
            | succ i => exact A.ok β i o p (by simpa using ho) (by simpa using hp)
          · rcases List.mem_cons.1 ho with rfl | ho
            · rfl
            · exact A.own o ho
        · rename_i hn1 hn2 hn3
          have hx' : Cell.okWide P w r base t x := by
            split at hx
            · rename_i e; exact (hn1 _ e).elim
            · rename_i e; exact (hn2 _ _ e).elim
            · exact hx
          split at h1
          · rename_i c hc
            cases h1
            obtain ⟨l, g1, g2⟩ := ck_cell hc hx'
            exact one (.val (.one l)) (fun vs h hh => ⟨l, vs, rfl, g1, hh⟩) g2
          · cases h1
    · cases hk
/-- a law's contract: on whatever arguments of its kinds, each of its ways needs nothing more and answers true -/
def LawOk (c : Con) (g : Nat) (ks : List AK) : Prop := ∀ vs h, shapes ks g vs h → ∃ l, c.paths vs h = some l ∧ ∀ r ∈ l, holdsP r.need ∧ r.v = .val (.one (.bool (.lit true)))
theorem law_calls {P : Program} {G : List (Nat × List L)} {c : Con} (hc : c.ok P G) {ks : List AK} (hlaw : LawOk c G.length ks) {ts : List TypeId} (hk : aksOf P ts = some ks) {H : Type} {enc : TypeId × Value → H} {r : Reach} {base b2 : Nat} {sp : Nat → Bool} {held : Bool} {W : World}
    {xs : List Value} {ds : List (DataW H)} {ps : List MemPlace} (hv : ∀ (j : Nat) t v, ts[j]? = some t → xs[j]? = some v → Value.okWide P W r base t v) (hA : DataW.TrodAll enc P W b2 sp held ts xs ds ps) (hsz : (DataW.weightsEach P ts ds).all (· ≤ reachBytes) = true)
    (hglob : ∀ (i : Nat) (g : Nat × List L), G[i]? = some g → g.1 < W.heap.size ∧ segsOk (fun _ => none) W g.1 0 [.cells g.2]) : Calls P c.f xs.toArray W fun e w' => e = .returned (.bool true) ∧ Below W.heap.size W w' := by
  obtain ⟨vs, h, pl, A⟩ := args_ok hk G.length xs ds ps hv hA hsz
  obtain ⟨l, h1, h2⟩ := hlaw vs h A.sh
  obtain ⟨rr, hr, _, hrun⟩ := hc vs h l h1
  obtain ⟨hneed, hval⟩ := h2 rr hr
  let β : Bm := fun i => if i < G.length then (G[i]?).map (fun g => .blk g.1) else pl[i - G.length]?
  have hβg : ∀ (i : Nat) (g : Nat × List L), G[i]? = some g → β i = some (.blk g.1) := fun i g hg => by
    show (if i < G.length then _ else _) = _
    rw [if_pos (List.getElem?_eq_some_iff.1 hg).1, hg]; rfl
  have hβp : ∀ i p, pl[i]? = some p → β (G.length + i) = some p := fun i p hp => by
    show (if G.length + i < G.length then _ else _) = _
    rw [if_neg (by omega), Nat.add_sub_cancel_left]; exact hp
  have hgl : (gm G).length = G.length := by simp [gm]
  have hmem : ∀ id o, (gm G ++ h)[id]? = some o → o.own = false ∧ ∃ p, β id = some p ∧ o.ok β W p := fun id o ho => by
    rcases Nat.lt_or_ge id G.length with hl | hl
    · rw [List.getElem?_append_left (by rw [hgl]; exact hl)] at ho
      simp only [gm, List.getElem?_map] at ho
      cases hg : G[id]? with
      | none => rw [hg] at ho; cases ho
      | some g =>
        rw [hg] at ho; cases ho
        obtain ⟨k1, k2⟩ := hglob id g hg
        exact ⟨rfl, _, hβg id g hg, k1, segsOk_same (fun _ _ h => by cases h) rfl k2, fun h => by cases h⟩
    · rw [List.getElem?_append_right (by rw [hgl]; exact hl), hgl] at ho
      have hlt : id - G.length < pl.length := by rw [A.len]; exact (List.getElem?_eq_some_iff.1 ho).1
      refine ⟨A.own o (List.mem_of_getElem? ho), pl[id - G.length], ?_, A.ok β _ o _ ho (List.getElem?_eq_getElem hlt)⟩
      have := hβp _ _ (List.getElem?_eq_getElem hlt)
      rwa [show G.length + (id - G.length) = id by omega] at this
  have hH : HeapOk β (gm G ++ h) W := by
    refine ⟨fun id o ho => (hmem id o ho).2, fun id p hp => ?_, fun i i' o o' p p' b hi hi' how => ?_⟩
    · have hp2 : (if id < G.length then (G[id]?).map (fun g => Pl.blk g.1) else pl[id - G.length]?) = some p := hp
      split at hp2
      · exact ⟨_, List.getElem?_eq_getElem (by simp [hgl]; omega)⟩
      · have := (List.getElem?_eq_some_iff.1 hp2).1
        exact ⟨_, List.getElem?_eq_getElem (by simp [hgl, ← A.len]; omega)⟩
    · rw [(hmem i o hi).1] at how; cases how
  have hG : GlobOk G β W := fun i g hg => ⟨hβg i g hg, hglob i g hg⟩
  refine (hrun hneed β xs W hH hG (A.rel β hβp)).mono ?_
  rintro e w' ⟨v, β', rfl, _, _, _, hv', hC⟩
  rw [hval] at hv'
  have : v = .bool true := hv'
  subst this
  refine ⟨rfl, hC.os, hC.tape, hC.output, hC.size, fun k hk => hC.block k hk ?_⟩
  rintro ⟨i, o, p, q1, q2, _⟩
  rw [(hmem i o q1).1] at q2; cases q2

/-! ### the answer -/
theorem trodAll_stays {H : Type} {enc : TypeId × Value → H} {P : Program} (hl : laidOutB P = true) {W W' : World} (hb : Below W.heap.size W W') {sp : Nat → Bool} :
    ∀ {ts : List TypeId} {vs : List Value} {ds : List (DataW H)} {ps : List MemPlace}, (ts.all fun t => P.readableRec t && decide (t < P.types.size)) = true → DataW.TrodAll enc P W 0 (fun _ => true) true ts vs ds ps →
      (∀ p ∈ ps, p.block < W.heap.size) → (∀ p ∈ ps, sp p.block = true) → DataW.TrodAll enc P W' 0 sp true ts vs ds ps
  | [], [], [], _, _, h, _, _ => h
  | [], [], _ :: _, _, _, h, _, _ => h.elim
  | [], _ :: _, _, _, _, h, _, _ => h.elim
  | _ :: _, [], _, _, _, h, _, _ => h.elim
  | _ :: _, _ :: _, [], _, _, h, _, _ => h.elim
  | t :: ts, v :: vs, d :: ds, ps, ht, h, hlt, hs => by
    obtain ⟨p, q, h1, h2, rfl⟩ := h
    simp only [List.all_cons, Bool.and_eq_true, decide_eq_true_eq] at ht
    exact ⟨p, q, WideElems.Trod_stays hl ht.1.1 ht.1.2 h1 (fun x hx => hb.same (hlt x (by simp [hx]))) (fun x hx => hs x (by simp [hx])),
      trodAll_stays hl hb ht.2 h2 (fun x hx => hlt x (by simp [hx])) (fun x hx => hs x (by simp [hx])), rfl⟩

/-- the answer is true, nothing old has turned -/
theorem post_true {H : Type} {enc : TypeId × Value → H} {P : Program} {f : Func} {s : ChangeSpec} {apart fresh handsOn again : Bool} (hl : laidOutB P = true) (hvars : s.vars = [])
    (hts : (f.params.toList.all fun t => P.readableRec t && decide (t < P.types.size)) = true) {tb : TypeId} (hrt : f.resultTypes = #[tb]) (hb : P.underlying tb = some .bool)
    {W W' : World} {args : Array Value} {ds gs : List (DataW H)} {before : List MemPlace} (hW : DataW.Whole enc P f.params.toList s.vars apart W args.toList ds gs before)
    (hfn : s.fn H (ds ++ gs) = { results := [.lit (.bool true)], args := ds }) (hbe : Below W.heap.size W W') : s.post enc P f apart fresh handsOn again W args (.bool true) W' := by
  have hW' := hW
  obtain ⟨p, q, hA, hV, rfl, hfz, hnd⟩ := hW
  rw [hvars] at hV
  obtain ⟨rfl, rfl⟩ := trodVars_none hV
  have hlt : ∀ x ∈ p, x.block < W.heap.size := fun x hx => by simpa using hW'.lt x (by simpa using hx)
  have hold : ∀ x ∈ p ++ [], (fun b => decide (b < W.heap.size)) x.block = true := fun x hx => by simpa using hW'.lt x hx
  have hres : ∀ (b : Nat) (sp : Nat → Bool) (hd : Bool), DataW.TrodAll enc P W' b sp hd f.resultTypes.toList ((Value.bool true).resultList f.resultTypes.size) (s.fn H (ds ++ [])).results [] := by
    intro b sp hd
    rw [hfn, hrt]
    exact trodAll_mk1 (shut_bool hb _)
  have hargs : ∀ sp : Nat → Bool, (∀ x ∈ p ++ [], sp x.block = true) → DataW.TrodAll enc P W' 0 sp true f.params.toList args.toList (s.fn H (ds ++ [])).args p := by
    intro sp hsp
    rw [hfn]
    exact trodAll_stays hl hbe hts hA hlt (fun x hx => hsp x (by simpa using hx))
  have hvar : ∀ sp : Nat → Bool, DataW.TrodVars enc P W' sp s.vars (s.fn H (ds ++ [])).vars [] := by
    intro sp
    rw [hfn, hvars]
    rfl
  refine ⟨ds, [], p ++ [], [], p, [], hW', hres _ _ _, hargs _ hold, hvar _, World.keptBut_mono (fun x hx => ⟨hx, ?_⟩) (hbe.frame (· ∈ p ++ [])), fun _ => ?_⟩
  · exact Or.inr (by simpa using hx)
  · refine ⟨ok_one hrt rfl (okWide_bool_mk hb _), [.lit (.bool true)] ++ ds, [], ([] ++ p) ++ [], ⟨[] ++ p, [], ?_, (by rw [hvars]; exact rfl), rfl, ?_, ?_⟩, ?_⟩
    · have h := trodAll_append (hargs (fun _ => true) (fun _ _ => rfl)) (hres 0 (fun _ => true) true)
      rw [hfn] at h
      exact h
    · intro b off hp
      have hx : MemPlace.cell b off ∈ p ++ [] := by simpa using hp
      rw [hbe.frozen (p := ⟨b, off, none⟩) (show b < W.heap.size from (hW'.lt _ hx : (MemPlace.cell b off).block < _))]
      exact hfz b off hx
    · intro ha
      simpa using hnd ha
    · intro x hx _
      simpa using hx

theorem trodAll_len {H : Type} {enc : TypeId × Value → H} {P : Program} {W : World} {base : Nat} {sp : Nat → Bool} {held : Bool} :
    ∀ {ts : List TypeId} {vs : List Value} {ds : List (DataW H)} {ps : List MemPlace}, DataW.TrodAll enc P W base sp held ts vs ds ps → vs.length = ts.length ∧ ds.length = ts.length
  | [], [], [], _, _ => ⟨rfl, rfl⟩
  | [], [], _ :: _, _, h => h.elim
  | [], _ :: _, _, _, h => h.elim
  | _ :: _, [], _, _, h => h.elim
  | _ :: _, _ :: _, [], _, h => h.elim
  | _ :: _, _ :: _, _ :: _, _, ⟨_, _, _, h, _⟩ => by simp [trodAll_len h]

/-- a whole row's contract -/
theorem row_true {H : Type} {enc : TypeId × Value → H} {P : Program} {G : List (Nat × List L)} {c : Con} {fn : Func} {s : ChangeSpec} {ts : List TypeId} {ks : List AK} {tb : TypeId}
    (hc : c.ok P G) (hlaw : LawOk c G.length ks) (hk : aksOf P ts = some ks)
    (hpar : fn.params.toList = ts) (hl : laidOutB P = true) (hvars : s.vars = []) (hts : (ts.all fun t => P.readableRec t && decide (t < P.types.size)) = true)
    (hrt : fn.resultTypes = #[tb]) (hb : P.underlying tb = some .bool) (hfn : ∀ ds : List (DataW H), ds.length = ts.length → s.fn H ds = { results := [.lit (.bool true)], args := ds })
    {apart fresh handsOn again : Bool} {W : World} {base : Nat} {args : Array Value} {ds gs : List (DataW H)} {before : List MemPlace}
    (hval : ∀ (j : Nat) t v, fn.params[j]? = some t → args[j]? = some v → Value.okWide P W .any base t v) (hW : DataW.Whole enc P fn.params.toList s.vars apart W args.toList ds gs before)
    (hsz : (DataW.weightsEach P (fn.params.toList ++ s.plain.varTypes P) (ds ++ gs)).all (· ≤ reachBytes) = true)
    (hglob : ∀ (i : Nat) (g : Nat × List L), G[i]? = some g → g.1 < W.heap.size ∧ segsOk (fun _ => none) W g.1 0 [.cells g.2]) :
    Calls P c.f args W fun e W' => ∃ v, e = .returned v ∧ s.post enc P fn apart fresh handsOn again W args v W' := by
  have hW' := hW
  obtain ⟨p, q, hA, hV, rfl, hfz, hnd⟩ := hW
  rw [hvars] at hV
  obtain ⟨rfl, rfl⟩ := trodVars_none hV
  have hlen := trodAll_len hA
  have hsz2 : (DataW.weightsEach P ts ds).all (· ≤ reachBytes) = true := by
    have e : s.plain.varTypes P = [] := by unfold DataSpec.varTypes ChangeSpec.plain; rw [hvars]; rfl
    rw [e, List.append_nil, List.append_nil, hpar] at hsz
    exact hsz
  refine Calls.mono (law_calls hc hlaw hk (r := .any) (base := base) (xs := args.toList) (fun j t v h1 h2 => hval j t v (by rw [← hpar] at h1; simpa using h1) (by simpa using h2)) (by rw [← hpar]; exact hA) hsz2 hglob) ?_
  rintro e W' ⟨rfl, hbe⟩
  exact ⟨_, rfl, post_true hl hvars (by rw [hpar]; exact hts) hrt hb hW' (by rw [List.append_nil]; exact hfn ds (by rw [hlen.2, hpar])) hbe⟩
end Go.Proofs.YtcecdpebapkfaaaHx
