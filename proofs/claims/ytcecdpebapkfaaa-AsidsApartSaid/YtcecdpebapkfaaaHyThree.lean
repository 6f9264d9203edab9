/- The heap engine, third part: contracts of functions, calls, a row's arguments and its answer, the library's sort. It is about no program. -/
import Derived.Test.YtcecdpebapkfaaaHyTwo
import Derived.ProofKit
import Derived.Deep.Slices
import Derived.Deep.Fields
import Derived.ChangeSame
import Derived.SizedLaws
import Derived.Sort.OwnSortedInts
namespace Go.Proofs.YtcecdpebapkfaaaHy
open Go Go.RowKit

section
variable {P : Program} {X : Cx}
noncomputable def resW (P : Program) (σ : St) : ResultVar → Option V
  | .tmp t => some ((view σ).tmp t)
  | .cell a ty => match (view σ).tmp a, tyAgg P ty, tySize P ty with
    | .val (.one (.ptr id off)), some true, some n => (match (view σ).blk id with
      | some (.mem _ segs) => (match loadN segs off n with | some ls => some (.val (.agg ls)) | none => none)
      | _ => none)
    | .val (.one (.ptr id off)), some false, some _ => (match (view σ).blk id with
      | some (.mem _ segs) => (match loadCell segs off with | some l => some (.val (.one l)) | none => none)
      | _ => none)
    | _, _, _ => none
noncomputable def resWs (P : Program) (σ : St) : List ResultVar → Option (List V)
  | [] => some []
  | r :: rs => match resW P σ r, resWs P σ rs with
    | some v, some vs => some (v :: vs)
    | _, _ => none
noncomputable def resV (P : Program) (fn : Func) (σ : St) : Option V :=
  match resWs P σ fn.results.toList with
  | some [v] => some v
  | some vs => (match allW vs with | some ws => some (.tup ws) | none => none)
  | none => none
def readRes (ts : Array Value) : ResultVar → Sem Value
  | .tmp t => pure (ts.getD t undef)
  | .cell p ty => do loadVar ty (← asAddr (ts.getD p undef))
theorem resW_ok {D : Dx} {σ : St} {β : Bm} {a : Act} {w : World} (h : RepB X D β (view σ) a w) {r : ResultVar} {v : V} (hv : resW P σ r = some v) :
    ∃ x, v.rel β x ∧ (readRes a.tmps r).run P w = .ok x w := by
  cases r with
  | tmp t => simp only [resW, Option.some.injEq] at hv; subst hv; exact ⟨_, h.tmps t, rfl⟩
  | cell p ty =>
    simp only [resW] at hv
    split at hv
    · rename_i id off n h1 h2 h3
      split at hv
      · rename_i own segs hblk
        split at hv
        · rename_i ls hl
          cases hv
          have ht := h.tmps p
          rw [h1] at ht
          obtain ⟨b, hb, hx⟩ := ht
          obtain ⟨p', k1, k2, _⟩ := h.mem _ _ hblk
          rw [hb] at k1; cases k1
          obtain ⟨q1, q2⟩ := loadN_get hl
          obtain ⟨vs, r1, r2⟩ := loadRun (P := P) (β := β) (w := w) (b := b) n off 0 ls #[] [] q1 (fun j l hj => by
            obtain ⟨y, h1, h2⟩ := loadCell_ok k2.2.1 (q2 j l hj)
            exact ⟨y, by rw [Nat.zero_add] at h1; rw [Nat.add_zero]; exact h1, h2⟩) trivial
          refine ⟨.agg vs, ⟨vs, rfl, by simpa using r2⟩, ?_⟩
          simp only [readRes, hx, asAddr, loadVar, loadCells, Sem.run_bind, Sem.run_pure, tyAgg_ok h2, tySize_ok h3, Result.andThen_ok, if_true, r1]
        · cases hv
      · cases hv
    · rename_i id off n h1 h2 h3
      split at hv
      · rename_i own segs hblk
        split at hv
        · rename_i l hl
          cases hv
          have ht := h.tmps p
          rw [h1] at ht
          obtain ⟨b, hb, hx⟩ := ht
          obtain ⟨p', k1, k2, _⟩ := h.mem _ _ hblk
          rw [hb] at k1; cases k1
          obtain ⟨y, hy, hr⟩ := loadCell_ok k2.2.1 hl
          rw [Nat.zero_add] at hy
          refine ⟨y, hr, ?_⟩
          simp only [readRes, hx, asAddr, loadVar, Sem.run_bind, Sem.run_pure, tyAgg_ok h2, Result.andThen_ok, Bool.false_eq_true, if_false, run_load, hy]
        · cases hv
      · cases hv
    · cases hv
theorem resWs_ok {D : Dx} {σ : St} {β : Bm} {a : Act} {w : World} (h : RepB X D β (view σ) a w) : ∀ {rs : List ResultVar} {vs : List V}, resWs P σ rs = some vs →
    ∃ xs, All2 (V.rel β) vs xs ∧ (rs.mapM (readRes a.tmps)).run P w = .ok xs w
  | [], vs, hv => by simp [resWs] at hv; subst hv; exact ⟨[], trivial, rfl⟩
  | r :: rs, vs, hv => by
    unfold resWs at hv
    split at hv
    · rename_i v vs' h1 h2
      cases hv
      obtain ⟨x, hx, hrun⟩ := resW_ok h h1
      obtain ⟨xs, hxs, hruns⟩ := resWs_ok h h2
      refine ⟨x :: xs, ⟨hx, hxs⟩, ?_⟩
      simp only [List.mapM_cons, Sem.run_bind, hrun, Result.andThen_ok, hruns]
      rfl
    · cases hv
theorem resV_ok {D : Dx} {σ : St} {β : Bm} {a : Act} {w : World} (h : RepB X D β (view σ) a w) {fn : Func} {v : V} (hv : resV P fn σ = some v) :
    ∃ x, v.rel β x ∧ (results fn a.tmps).run P w = .ok x w := by
  have e : ∀ xs, (fn.results.toList.mapM (readRes a.tmps)).run P w = .ok xs w →
      (results fn a.tmps).run P w = .ok (if h : xs.toArray.size = 1 then xs.toArray[0] else .tuple xs.toArray) w := by
    intro xs hxs
    have e1 : results fn a.tmps = (do let vs ← fn.results.mapM (readRes a.tmps); pure (if h : vs.size = 1 then vs[0] else .tuple vs)) := by
      unfold results
      congr 2
    rw [e1, Array.mapM_eq_mapM_toList]
    simp only [Sem.run_bind, Sem.run_map, hxs, Result.andThen_ok]
    rfl
  unfold resV at hv
  split at hv
  · rename_i v' h1
    cases hv
    obtain ⟨xs, hxs, hrun⟩ := resWs_ok h h1
    cases xs with
    | nil => exact hxs.elim
    | cons x xs =>
      cases xs with
      | nil => exact ⟨x, hxs.1, by rw [e _ hrun]; rfl⟩
      | cons _ _ => exact hxs.2.elim
  · rename_i vs hne h1
    split at hv
    · rename_i ws hws
      cases hv
      obtain ⟨xs, hxs, hrun⟩ := resWs_ok h h1
      refine ⟨.tuple xs.toArray, ⟨_, rfl, allW_ok hws hxs⟩, ?_⟩
      rw [e _ hrun]
      have hlen := hxs.length
      have : ¬ xs.toArray.size = 1 := by
        intro h2
        cases vs with
        | nil => simp at hlen h2; omega
        | cons v vs =>
          cases vs with
          | nil => exact hne v rfl
          | cons _ _ => simp at hlen h2; omega
      rw [dif_neg this]
    · cases hv
  · cases hv


/-! ### what a function promises -/
/-- one way of a call: what it supposes, what it needs, what it answers, the objects behind it -/
structure Res where
  g : Option Prop
  need : Option Prop
  v : V
  objs : List Ob
structure Con where
  f : FuncId
  paths : List V → List Ob → Option (List Res)
  /-- it only reads what is handed in -/
  ro : Bool
/-- the tables, as objects -/
def gm (G : List (Nat × List L)) : List Ob := G.map fun g => .mem false [.cells g.2]
structure HeapOk (β : Bm) (M : List Ob) (w : World) : Prop where
  mem : ∀ id o, M[id]? = some o → ∃ p, β id = some p ∧ o.ok β w p
  dom : ∀ id p, β id = some p → ∃ o, M[id]? = some o
  inj : ∀ id id' o o' p p' b, M[id]? = some o → M[id']? = some o' → o.own = true → o' ≠ .gone → β id = some p → β id' = some p' → p.foot = some b → p'.foot = some b → id = id'
def owned (β : Bm) (M : List Ob) (b : Nat) : Prop := ∃ i o p, M[i]? = some o ∧ o.own = true ∧ β i = some p ∧ p.foot = some b
def dOf (β : Bm) (M : List Ob) (w : World) : Dx := ⟨w.heap.size, w, β, owned β M⟩
def GlobOk (G : List (Nat × List L)) (β : Bm) (w : World) : Prop := ∀ i g, G[i]? = some g → β i = some (.blk g.1) ∧ g.1 < w.heap.size ∧ segsOk (fun _ => none) w g.1 0 [.cells g.2]
def CallPost (G : List (Nat × List L)) (β : Bm) (M : List Ob) (w : World) (r : Res) (e : Ending) (w' : World) : Prop :=
  ∃ x β', e = .returned x ∧ β.le β' ∧ HeapOk β' (gm G ++ r.objs) w' ∧ (∀ i o p, (gm G ++ r.objs)[i]? = some o → o.own = true → β' i = some p → (dOf β M w).may p) ∧ r.v.rel β' x ∧ Chg (dOf β M w) w'
def Con.ok (P : Program) (G : List (Nat × List L)) (c : Con) : Prop :=
  ∀ args h l, c.paths args h = some l → ∃ r ∈ l, holdsP r.g ∧ (holdsP r.need → ∀ β xs w, HeapOk β (gm G ++ h) w → GlobOk G β w → All2 (V.rel β) args xs → Calls P c.f xs.toArray w (CallPost G β (gm G ++ h) w r))

/-- the condition of a function's text -/
noncomputable def fnVC (P : Program) (G : List (Nat × List L)) (call : CallH) (anns : Anns) (fn : Func) (body : Code) (args : List V) (h : List Ob) (r : Res) : Prop :=
  match Nat.ble args.length fn.ntmps with
  | true => gen P G call fn.ntmps (gm G ++ h).length anns body 0 ⟨args ++ List.replicate (fn.ntmps - args.length) (.val (.one .junk)), gm G ++ h⟩ (fun o σ => match o with
    | .exit _ => False
    | .normal | .ret => match resV P fn σ with
      | none => False
      | some v => sub (gm G ++ h).length ⟨[v], σ.mem⟩ ⟨[r.v], gm G ++ r.objs⟩)
  | false => False
theorem fnVC_ok {G : List (Nat × List L)} {call : CallH} {fn : Func} (hcall : CallHOk P ⟨G, fn.ntmps⟩ call) {anns : Anns} {f : FuncId} {body : Code} (hfn : P.funcs[f]? = some fn) (hb : fn.body = some body) {args : List V} {h : List Ob} {r : Res}
    (hv : fnVC P G call anns fn body args h r) {β : Bm} {xs : List Value} {w : World} (hH : HeapOk β (gm G ++ h) w) (hg : GlobOk G β w) (hx : All2 (V.rel β) args xs) : Calls P f xs.toArray w (CallPost G β (gm G ++ h) w r) := by
  unfold fnVC at hv
  split at hv
  · rename_i hc1
    have hc1 := Nat.le_of_ble_eq_true hc1
    have hlen := hx.length
    have hgl : (gm G).length = G.length := by simp [gm]
    refine calls_of_wp hfn hb ?_
    have hnog : ∀ (i : Nat) (g : Nat × List L), G[i]? = some g → ¬ owned β (gm G ++ h) g.1 := by
      rintro i g hgi ⟨j, o, p, h1, h2, h3, h4⟩
      have hi : (gm G ++ h)[i]? = some (.mem false [.cells g.2]) := by
        rw [List.getElem?_append_left (by rw [hgl]; exact (List.getElem?_eq_some_iff.1 hgi).1)]
        simp [gm, hgi]
      have := hH.inj j i o _ p (.blk g.1) g.1 h1 hi h2 (fun e => by cases e) h3 (hg i g hgi).1 h4 rfl
      subst this
      rw [h1] at hi
      cases hi; cases h2
    have hR : Rep ⟨G, fn.ntmps⟩ (dOf β (gm G ++ h) w) (view ⟨args ++ List.replicate (fn.ntmps - args.length) (.val (.one .junk)), gm G ++ h⟩)
        { tmps := xs.toArray ++ Array.replicate (fn.ntmps - xs.toArray.size) undef, defers := [] } w := by
      refine ⟨⟨rfl, rfl, rfl, Nat.le_refl _, Nat.le_refl _, fun _ _ _ => rfl⟩, β, Bm.le_refl β, ?_, fun t => ?_, rfl, fun id o ho => ?_, fun id p hp => ?_, fun i i' o o' p p' b ho ho' how hng hp hp' hf hf' => ?_, fun i g hgi => ?_⟩
      · show (xs.toArray ++ Array.replicate (fn.ntmps - xs.toArray.size) undef).size = fn.ntmps
        simp; omega
      · simp only [view, lget_eq, List.getD_eq_getElem?_getD, Array.getD_eq_getD_getElem?]
        by_cases ht : t < args.length
        · obtain ⟨y, hy, hr⟩ := hx.get t _ (List.getElem?_eq_getElem ht)
          rw [List.getElem?_append_left ht, List.getElem?_eq_getElem ht, Array.getElem?_append_left (by simp; omega)]
          have : xs.toArray[t]? = some y := by simpa using hy
          rw [this]
          exact hr
        · rw [List.getElem?_append_right (by omega)]
          have : (List.replicate (fn.ntmps - args.length) (V.val (.one .junk)))[t - args.length]?.getD (.val (.one .junk)) = .val (.one .junk) := by
            rw [List.getElem?_replicate]; split <;> rfl
          rw [this]; trivial
      · obtain ⟨p, k1, k2⟩ := hH.mem id o ho
        exact ⟨p, k1, k2, fun how b hb => .inr ⟨id, o, p, ho, how, k1, hb⟩⟩
      · exact hH.dom id p hp
      · exact hH.inj i i' o o' p p' b ho ho' how hng hp hp' hf hf'
      · obtain ⟨k1, k2, k3⟩ := hg i g hgi
        exact ⟨k1, k2, hnog i g hgi, k3⟩
    have hE : ∀ i p, (dOf β (gm G ++ h) w).b0 i = some p → i < (gm G ++ h).length := fun i p hp => by
      obtain ⟨o, ho⟩ := hH.dom i p hp
      exact (List.getElem?_eq_some_iff.1 ho).1
    refine wp_mono (gen_ok hcall (by simp [hgl]) body 0 _ _ hv (by simp; omega) _ hE _ w hR) ?_
    rintro e a' w' ⟨o, σ, rfl, hK, hn, hR'⟩
    have fin : ∀ v, resV P fn σ = some v → sub (gm G ++ h).length ⟨[v], σ.mem⟩ ⟨[r.v], gm G ++ r.objs⟩ → a'.defers = [] ∧ ∃ x, (results fn a'.tmps).run P w' = .ok x w' ∧ CallPost G β (gm G ++ h) w r (.returned x) w' := by
      intro v h1 h2
      obtain ⟨hchg, β1, hb1, hB⟩ := hR'
      obtain ⟨x, hxr, hrun⟩ := resV_ok hB h1
      have hR2 : Rep ⟨G, 1⟩ (dOf β (gm G ++ h) w) (view ⟨[v], σ.mem⟩) { tmps := #[x], defers := [] } w' := by
        refine ⟨hchg, β1, hb1, ⟨rfl, fun t => ?_, rfl, hB.mem, hB.dom, hB.inj, hB.glob⟩⟩
        simp only [view, lget_eq, List.getD_eq_getElem?_getD, Array.getD_eq_getD_getElem?]
        cases t with
        | zero => exact hxr
        | succ t => trivial
      obtain ⟨⟨_, β2, hb2, hB2⟩, _⟩ := sub_rep h2 hE (by simp [hgl]) (X := ⟨G, 1⟩) rfl hR2
      refine ⟨hB.defers, x, hrun, x, β2, rfl, hb2, ⟨fun id o ho => ?_, hB2.dom, hB2.inj⟩, fun i o p ho how hp => ?_, ?_, hchg⟩
      · obtain ⟨p, k1, k2, _⟩ := hB2.mem id o ho; exact ⟨p, k1, k2⟩
      · obtain ⟨p', k1, _, k3⟩ := hB2.mem i o ho
        rw [hp] at k1; cases k1
        exact k3 how
      · exact hB2.tmps 0
    cases o with
    | exit id => exact hK.elim
    | normal =>
      simp only at hK
      split at hK
      · exact hK.elim
      · rename_i v hv'; exact fin v hv' hK
    | ret =>
      simp only at hK
      split at hK
      · exact hK.elim
      · rename_i v hv'; exact fin v hv' hK
  · exact hv.elim
end
end Go.Proofs.YtcecdpebapkfaaaHy
namespace Go.Proofs.YtcecdpebapkfaaaHy
open Go Go.RowKit

/-- a number written out is a term like any other -/
def L.blur : L → L
  | .bool e => .bool (.tm e.v)
  | .int k e => .int k (.tm e.v)
  | l => l
def W.blur : W → W
  | .one l => .one l.blur
  | .agg ls => .agg (ls.map L.blur)
def V.blur : V → V
  | .val w => .val w.blur
  | .tup ws => .tup (ws.map W.blur)
  | .opt c v => .opt c v
def Seg.blur : Seg → Seg
  | .cells ls => .cells (ls.map L.blur)
  | .arr n cols => .arr n cols
def Ob.blur : Ob → Ob
  | .mem own segs => .mem own (segs.map Seg.blur)
  | o => o
theorem L.blur_rel {β : Bm} {l : L} {x : Value} (h : l.rel β x) : l.blur.rel β x := by cases l <;> exact h
theorem W.blur_rel {β : Bm} {w : W} {x : Value} (h : w.rel β x) : w.blur.rel β x := by
  cases w with
  | one l => exact L.blur_rel h
  | agg ls => obtain ⟨cs, h1, h2⟩ := h; exact ⟨cs, h1, all2_map (fun _ _ h => L.blur_rel h) h2⟩
theorem V.blur_rel {β : Bm} {v : V} {x : Value} (h : v.rel β x) : v.blur.rel β x := by
  cases v with
  | val w => exact W.blur_rel h
  | tup ws => obtain ⟨cs, h1, h2⟩ := h; exact ⟨cs, h1, all2_map (fun _ _ h => W.blur_rel h) h2⟩
  | opt c v => exact h
theorem segsOk_blur {β : Bm} {w : World} {b : Nat} : ∀ {segs : List Seg} {off : Nat}, segsOk β w b off segs → segsOk β w b off (segs.map Seg.blur)
  | [], _, _ => trivial
  | .cells ls :: r, off, ⟨h1, h2⟩ => by
    refine ⟨fun j l hl => ?_, by rw [List.length_map]; exact segsOk_blur h2⟩
    simp only [List.getElem?_map] at hl
    cases hl0 : ls[j]? with
    | none => rw [hl0] at hl; cases hl
    | some l0 =>
      rw [hl0] at hl; cases hl
      obtain ⟨x, k1, k2⟩ := h1 j l0 hl0
      exact ⟨x, k1, L.blur_rel k2⟩
  | .arr n cols :: r, off, ⟨h1, h2⟩ => ⟨h1, segsOk_blur h2⟩
theorem Ob.ok_blur {β : Bm} {w : World} : ∀ {o : Ob} {p : Pl}, o.ok β w p → o.blur.ok β w p
  | .mem _own _segs, .blk _b, ⟨h1, h2, h3⟩ => ⟨h1, segsOk_blur h2, h3⟩
  | .mp _ _key _agg _has _cols, .blk _b, hk => hk
  | .mpl _ _key _agg _has _cols _, .blk _b, hk => hk
  | .itr _ _ _ _ _, .blk _b, hk => hk
  | .mpl _ _ _ _ _ _, .val _, h => h.elim
  | .itr _ _ _ _ _, .val _, h => h.elim
  | .vec _own _e _n _cols, .val _x, hk => hk
  | .gone, _, _ => trivial
  | .mem _ _, .val _, h => h.elim
  | .mp _ _ _ _ _, .val _, h => h.elim
  | .vec _ _ _ _, .blk _, h => h.elim
theorem Ob.blur_own (o : Ob) : o.blur.own = o.own := by cases o <;> rfl
theorem Ob.gone_blur {o : Ob} (h : o.blur ≠ .gone) : o ≠ .gone := fun e => h (by rw [e]; rfl)

def Ob.disown : Ob → Ob
  | .mem _ segs => .mem false segs
  | .mp _ k a has cols => .mp false k a has cols
  | .vec _ e n cols => .vec false e n cols
  | .mpl _ k a has cols g => .mpl false k a has cols g
  | .itr _ m g seen cur => .itr false m g seen cur
  | .gone => .gone
def lend (ro : Bool) (o : Ob) : Ob := match ro with
  | true => o.disown
  | false => o
theorem lend_ok {ro : Bool} {β : Bm} {w : World} {o : Ob} {p : Pl} (h : o.ok β w p) : (lend ro o).ok β w p := by
  cases ro with
  | false => exact h
  | true =>
    cases o with
    | mem own segs => cases p with
      | val _ => exact h.elim
      | blk b => exact ⟨h.1, h.2.1, fun e => by cases e⟩
    | mp own k a has cols => cases p with
      | val _ => exact h.elim
      | blk b => exact h
    | vec own e n cols => cases p with
      | blk _ => exact h.elim
      | val x =>
        obtain ⟨h0, h1⟩ := h
        refine ⟨h0, ?_⟩
        rcases h1 with ⟨c, a1, a2, _⟩ | ⟨b, off, cap, a1, a2, a3, a4, _⟩
        · exact .inl ⟨c, a1, a2, fun e => by cases e⟩
        · exact .inr ⟨b, off, cap, a1, a2, a3, a4, fun e => by cases e⟩
    | mpl own k a has cols g => cases p with
      | val _ => exact h.elim
      | blk b => exact h
    | itr own m g seen cur => cases p with
      | val _ => exact h.elim
      | blk b => exact h
    | gone => trivial
theorem lend_own {ro : Bool} {o : Ob} (h : (lend ro o).own = true) : lend ro o = o := by
  cases ro with
  | false => rfl
  | true => cases o <;> cases h
theorem lend_gone {ro : Bool} {o : Ob} (h : lend ro o ≠ .gone) : o ≠ .gone := fun e => h (by rw [e]; cases ro <;> rfl)
/-! ### what a call may reach -/
def reach (mem : Nat → Option Ob) : Nat → List Nat → List Nat → List Nat
  | 0, _, acc => acc
  | _ + 1, [], acc => acc
  | n + 1, i :: r, acc => if acc.any (Nat.beq i) then reach mem n r acc else (match mem i with
    | some o => reach mem n (o.ids ++ r) (acc ++ [i])
    | none => reach mem n r acc)
def posOf (l : List Nat) (x : Nat) : Nat := match l with
  | [] => 0
  | y :: r => if Nat.beq y x then 0 else posOf r x + 1
theorem posOf_ok : ∀ {l : List Nat} {x : Nat}, x ∈ l → l[posOf l x]? = some x ∧ posOf l x < l.length
  | y :: r, x, h => by
    unfold posOf
    by_cases e : Nat.beq y x = true
    · rw [if_pos e]; exact ⟨by rw [← Nat.eq_of_beq_eq_true e]; rfl, by simp⟩
    · rw [if_neg e]
      have hm : x ∈ r := by
        rcases List.mem_cons.1 h with h | h
        · rw [h, Nat.beq_refl] at e; exact absurd rfl e
        · exact h
      obtain ⟨h1, h2⟩ := posOf_ok hm
      exact ⟨by simpa using h1, by simpa using h2⟩
def nodupB : List Nat → Bool
  | [] => true
  | x :: r => !r.any (Nat.beq x) && nodupB r
theorem nodupB_ok : ∀ {l : List Nat}, nodupB l = true → ∀ (i j x : Nat), l[i]? = some x → l[j]? = some x → i = j
  | [], _, i, j, x, h, _ => by simp at h
  | y :: r, hn, i, j, x, hi, hj => by
    simp only [nodupB, Bool.and_eq_true, Bool.not_eq_true', List.any_eq_false] at hn
    have hno : ∀ k, r[k]? = some y → False := fun k hk => by
      have := hn.1 y (List.mem_of_getElem? hk)
      rw [Nat.beq_refl] at this; exact this rfl
    cases i with
    | zero =>
      cases j with
      | zero => rfl
      | succ j => simp at hi hj; subst hi; exact (hno j hj).elim
    | succ i =>
      cases j with
      | zero => simp at hi hj; subst hj; exact (hno i hi).elim
      | succ j => simp at hi hj; rw [nodupB_ok hn.2 i j x hi hj]
def objsOf (mem : Nat → Option Ob) : List Nat → Option (List Ob)
  | [] => some []
  | i :: r => match mem i, objsOf mem r with
    | some o, some os => some (o :: os)
    | _, _ => none
theorem objsOf_ok {mem : Nat → Option Ob} : ∀ {l : List Nat} {os : List Ob}, objsOf mem l = some os → os.length = l.length ∧ ∀ (k i : Nat), l[k]? = some i → ∃ o, os[k]? = some o ∧ mem i = some o
  | [], os, h => by cases h; exact ⟨rfl, (fun k i h => by simp at h)⟩
  | i :: r, os, h => by
    unfold objsOf at h
    split at h
    · rename_i o os' h1 h2
      cases h
      obtain ⟨k1, k2⟩ := objsOf_ok h2
      refine ⟨by simp [k1], fun k j hj => ?_⟩
      cases k with
      | zero => simp at hj; subst hj; exact ⟨o, rfl, h1⟩
      | succ k => simpa using k2 k j (by simpa using hj)
    · cases h
/-- the writes of a call: to what was handed in and may be written; to what is new -/
def wrOld (fb : Nat → Nat) : List Nat → List Ob → List Ob → Option (List (Nat × Option Ob))
  | [], _, _ => some []
  | i :: r, o :: os, q :: qs => match o.own with
    | true => (match q with
      | .gone => (match wrOld fb r os qs with | some ws => some ((i, some .gone) :: ws) | none => none)
      | q => if q.own then (match wrOld fb r os qs with | some ws => some ((i, some (q.ren fb)) :: ws) | none => none) else none)
    | false => wrOld fb r os qs
  | _, _, _ => none
def wrNew (fb : Nat → Nat) (fresh : Nat) : List Ob → Option (List (Nat × Option Ob))
  | [] => some []
  | q :: qs => match q with
    | .gone => (match wrNew fb (fresh + 1) qs with | some ws => some ((fresh, some .gone) :: ws) | none => none)
    | q => if q.own then (match wrNew fb (fresh + 1) qs with | some ws => some ((fresh, some (q.ren fb)) :: ws) | none => none) else none
def okObj (o q : Ob) : Prop := o.own = true ∧ (q = .gone ∨ q.own = true)
def WrOldP (fb : Nat → Nat) (I : List Nat) (os qs : List Ob) (ws : List (Nat × Option Ob)) : Prop :=
  (∀ (i : Nat) (v : Option Ob), look ws i = some v → ∃ (k : Nat) (o q : Ob), I[k]? = some i ∧ os[k]? = some o ∧ qs[k]? = some q ∧ v = some (q.ren fb) ∧ okObj o q) ∧
  (∀ (k i : Nat) (o : Ob), I[k]? = some i → os[k]? = some o → o.own = true → ∃ q : Ob, qs[k]? = some q ∧ look ws i = some (some (q.ren fb)))
theorem wrOld_ok {fb : Nat → Nat} : ∀ {I : List Nat} {os qs : List Ob} {ws : List (Nat × Option Ob)}, wrOld fb I os qs = some ws → I.length = os.length → nodupB I = true → WrOldP fb I os qs ws
  | [], os, qs, ws, h, _, _ => by cases h; exact ⟨(fun i v h => by cases h), (fun k i o h => by simp at h)⟩
  | i0 :: r, [], qs, ws, _, hl, _ => by simp at hl
  | i0 :: r, o0 :: os, [], ws, h, _, _ => by simp [wrOld] at h
  | i0 :: r, o0 :: os, q0 :: qs, ws, h, hl, hn => by
    have hn' : nodupB r = true := by simp only [nodupB, Bool.and_eq_true] at hn; exact hn.2
    have hno : ∀ k, r[k]? = some i0 → False := fun k hk => by
      have := nodupB_ok hn 0 (k + 1) i0 rfl (by simpa using hk); omega
    have hl' : r.length = os.length := by simpa using hl
    have skip : wrOld fb r os qs = some ws → o0.own = false → WrOldP fb (i0 :: r) (o0 :: os) (q0 :: qs) ws := fun h1 ho => by
      obtain ⟨k1, k2⟩ := wrOld_ok h1 hl' hn'
      refine ⟨fun i v hv => ?_, fun k i o hi ho' how => ?_⟩
      · obtain ⟨k, o, q, a1, a2, a3, a4, a5⟩ := k1 i v hv
        exact ⟨k + 1, o, q, by simpa using a1, by simpa using a2, by simpa using a3, a4, a5⟩
      · cases k with
        | zero => simp at ho'; subst ho'; rw [ho] at how; cases how
        | succ k => simpa using k2 k i o (by simpa using hi) (by simpa using ho') how
    have take : ∀ ws', wrOld fb r os qs = some ws' → okObj o0 q0 → WrOldP fb (i0 :: r) (o0 :: os) (q0 :: qs) ((i0, some (q0.ren fb)) :: ws') := fun ws' h1 hok => by
      obtain ⟨k1, k2⟩ := wrOld_ok h1 hl' hn'
      refine ⟨fun i v hv => ?_, fun k i o hi ho' how => ?_⟩
      · unfold look at hv
        split at hv
        · rename_i e; cases hv; exact ⟨0, o0, q0, by rw [← Nat.eq_of_beq_eq_true e]; rfl, rfl, rfl, rfl, hok⟩
        · obtain ⟨k, o, q, a1, a2, a3, a4, a5⟩ := k1 i v hv
          exact ⟨k + 1, o, q, by simpa using a1, by simpa using a2, by simpa using a3, a4, a5⟩
      · cases k with
        | zero => simp at hi; subst hi; exact ⟨q0, rfl, by unfold look; rw [Nat.beq_refl]; rfl⟩
        | succ k =>
          have hi' : r[k]? = some i := by simpa using hi
          obtain ⟨q, b1, b2⟩ := k2 k i o hi' (by simpa using ho') how
          refine ⟨q, by simpa using b1, ?_⟩
          unfold look
          have hb : Nat.beq i0 i = false := by
            cases hb : Nat.beq i0 i
            · rfl
            · rw [← Nat.eq_of_beq_eq_true hb] at hi'; exact (hno k hi').elim
          simp only [hb, Bool.false_eq_true, if_false]; exact b2
    unfold wrOld at h
    split at h
    · rename_i ho
      split at h
      · split at h
        · rename_i ws' h1; cases h; exact take ws' h1 ⟨ho, .inl rfl⟩
        · cases h
      · split at h
        · rename_i hq
          split at h
          · rename_i ws' h1; cases h; exact take ws' h1 ⟨ho, .inr hq⟩
          · cases h
        · cases h
    · rename_i ho; exact skip h ho
def WrNewP (fb : Nat → Nat) (fresh : Nat) (qs : List Ob) (ws : List (Nat × Option Ob)) : Prop :=
  (∀ (i : Nat), look ws i = if fresh ≤ i then (qs[i - fresh]?).map (fun q => some (q.ren fb)) else none) ∧ ∀ (k : Nat) (q : Ob), qs[k]? = some q → q = .gone ∨ q.own = true
theorem wrNew_ok {fb : Nat → Nat} : ∀ {qs : List Ob} {fresh : Nat} {ws : List (Nat × Option Ob)}, wrNew fb fresh qs = some ws → WrNewP fb fresh qs ws
  | [], fresh, ws, h => by cases h; exact ⟨(fun i => by simp [look]), (fun k q h => by simp at h)⟩
  | q0 :: qs, fresh, ws, h => by
    have fin : ∀ ws', wrNew fb (fresh + 1) qs = some ws' → (q0 = .gone ∨ q0.own = true) → WrNewP fb fresh (q0 :: qs) ((fresh, some (q0.ren fb)) :: ws') := fun ws' h1 hok => by
      obtain ⟨k1, k2⟩ := wrNew_ok h1
      refine ⟨fun i => ?_, fun k q hq => ?_⟩
      · unfold look
        by_cases e : fresh = i
        · subst e; rw [Nat.beq_refl]; simp
        · have hb : Nat.beq fresh i = false := by
            cases hb : Nat.beq fresh i
            · rfl
            · exact absurd (Nat.eq_of_beq_eq_true hb) e
          simp only [hb, Bool.false_eq_true, if_false]
          rw [k1]
          by_cases hl : fresh ≤ i
          · rw [if_pos hl, if_pos (by omega), show i - fresh = (i - (fresh + 1)) + 1 by omega]; simp
          · rw [if_neg hl, if_neg (by omega)]
      · cases k with
        | zero => simp at hq; subst hq; exact hok
        | succ k => exact k2 k q (by simpa using hq)
    unfold wrNew at h
    split at h
    · split at h
      · rename_i ws' h1; cases h; exact fin ws' h1 (.inl rfl)
      · cases h
    · split at h
      · rename_i hq
        split at h
        · rename_i ws' h1; cases h; exact fin ws' h1 (.inr hq)
        · cases h
      · cases h
end Go.Proofs.YtcecdpebapkfaaaHy
namespace Go.Proofs.YtcecdpebapkfaaaHy
open Go Go.RowKit

def renIn (g : Nat) (I : List Nat) (i : Nat) : Nat := if Nat.blt i g then i else g + posOf I i
def renOut (g : Nat) (I : List Nat) (fresh : Nat) (j : Nat) : Nat := if Nat.blt j g then j else match I[j - g]? with
  | some i => i
  | none => fresh + (j - g - I.length)
def pathsOf (g : Nat) (I : List Nat) (os : List Ob) (fresh : Nat) : List Res → Option (List Path)
  | [] => some []
  | r :: rs => if Nat.ble I.length r.objs.length then (match wrOld (renOut g I fresh) I os (r.objs.take I.length), wrNew (renOut g I fresh) fresh (r.objs.drop I.length), pathsOf g I os fresh rs with
    | some a, some b, some ps => some (⟨r.g, r.need, ⟨r.v.ren (renOut g I fresh), I, a ++ b⟩⟩ :: ps)
    | _, _, _ => none) else none
theorem pathsOf_ok {g : Nat} {I : List Nat} {os : List Ob} {fresh : Nat} : ∀ {rs : List Res} {ps : List Path}, pathsOf g I os fresh rs = some ps → ∀ r ∈ rs, I.length ≤ r.objs.length ∧ ∃ a b, wrOld (renOut g I fresh) I os (r.objs.take I.length) = some a ∧ wrNew (renOut g I fresh) fresh (r.objs.drop I.length) = some b ∧
    (⟨r.g, r.need, ⟨r.v.ren (renOut g I fresh), I, a ++ b⟩⟩ : Path) ∈ ps
  | [], _, _, r, hr => by cases hr
  | r0 :: rs, ps, h, r, hr => by
    unfold pathsOf at h
    split at h
    · rename_i hl
      split at h
      · rename_i a b ps' h1 h2 h3
        cases h
        rcases List.mem_cons.1 hr with rfl | hr
        · exact ⟨Nat.le_of_ble_eq_true hl, a, b, h1, h2, List.mem_cons_self⟩
        · obtain ⟨k1, a', b', k2, k3, k4⟩ := pathsOf_ok h3 r hr
          exact ⟨k1, a', b', k2, k3, List.mem_cons_of_mem _ k4⟩
      · cases h
    · cases h
def callGo (_P : Program) (g : Nat) (c : Con) (args : List V) (s : S) (fresh : Nat) (I : List Nat) : Option (List Path) :=
  match objsOf s.blk I with
  | none => none
  | some os0 => match os0.map (lend c.ro) with
    | os => if nodupB I && I.all (fun i => Nat.ble g i) && Nat.ble g fresh && (args.flatMap V.ids ++ os.flatMap Ob.ids).all (fun i => Nat.blt i g || I.any (Nat.beq i)) then
      (match c.paths (args.map fun v => (v.ren (renIn g I)).blur) (os.map fun o => (o.ren (renIn g I)).blur) with
      | none => none
      | some rs => pathsOf g I os fresh rs) else none
def callOf (P : Program) (G : List (Nat × List L)) (cs : List Con) : CallH := fun f args s fresh =>
  match cs.find? (fun c => Nat.beq c.f f), P.funcs[f]? with
  | some c, some fn => if (fn.name == "runtime.NumGoroutine") || fn.body.isNone then none else
      callGo P G.length c args s fresh (reach (fun i => if Nat.blt i G.length then none else s.blk i) 64 (args.flatMap V.ids) [])
  | _, _ => none

theorem look_append {α : Type} : ∀ (a b : List (Nat × α)) (i : Nat), look (a ++ b) i = (match look a i with
    | some v => some v
    | none => look b i)
  | [], b, i => rfl
  | p :: a, b, i => by
    simp only [List.cons_append, look]
    split
    · rfl
    · exact look_append a b i
section
variable {P : Program} {X : Cx}
theorem call_eff {c : Con} (hc : c.ok P X.G) {args : List V} {s : S} {fresh : Nat} (hfree : ∀ i, fresh ≤ i → s.blk i = none) {I : List Nat} {l : List Path} (h : callGo P X.G.length c args s fresh I = some l)
    {fn : Func} (hfn : P.funcs[c.f]? = some fn) (hname : (fn.name == "runtime.NumGoroutine") = false) (hbody : fn.body.isNone = false) (cl : Call) (x : Operand) (hcl : cl.callee = .value x) :
    PathsOk P X (.call cl) s (.val (.one (.cst (.func (.func c.f) #[] #[]))) :: args) l := by
  unfold callGo at h
  split at h
  · cases h
  · rename_i os0 hos
    simp only at h
    split at h
    · rename_i hchk
      simp only [Bool.and_eq_true, List.all_eq_true] at hchk
      obtain ⟨⟨⟨hnd, hge⟩, hgf⟩, hids⟩ := hchk
      have hgf := Nat.le_of_ble_eq_true hgf
      split at h
      · cases h
      · rename_i rs hrs
        obtain ⟨r, hr, hrg, hrok⟩ := hc _ _ _ hrs
        obtain ⟨hlen, wa, wb, hwa, hwb, hmem⟩ := pathsOf_ok h r hr
        obtain ⟨o1', o2'⟩ := objsOf_ok hos
        generalize hosd : os0.map (lend c.ro) = os at *
        have o1 : os.length = I.length := by rw [← hosd, List.length_map]; exact o1'
        have o2 : ∀ k i : Nat, I[k]? = some i → ∃ o, os[k]? = some (lend c.ro o) ∧ s.blk i = some o := fun k i hi => by
          obtain ⟨o, a1, a2⟩ := o2' k i hi
          exact ⟨o, by rw [← hosd, List.getElem?_map, a1]; rfl, a2⟩
        refine ⟨_, hmem, hrg, fun hneed => ?_⟩
        have hrok := hrok hneed
        obtain ⟨wa1, wa2⟩ := wrOld_ok hwa (by omega) hnd
        obtain ⟨wb1, wb2⟩ := wrNew_ok hwb
        let g := X.G.length
        let m := r.objs.length - I.length
        -- names
        have hIg : ∀ k i : Nat, I[k]? = some i → g ≤ i ∧ i < fresh := fun k i hi => by
          refine ⟨Nat.le_of_ble_eq_true (hge i (List.mem_of_getElem? hi)), ?_⟩
          obtain ⟨o, _, ho⟩ := o2 k i hi
          rcases Nat.lt_or_ge i fresh with h' | h'
          · exact h'
          · rw [hfree i h'] at ho; cases ho
        have hin : ∀ i ∈ args.flatMap V.ids ++ os.flatMap Ob.ids, i < g ∨ ∃ k, I[k]? = some i ∧ renIn g I i = g + k := fun i hi => by
          have := hids i hi
          rw [Bool.or_eq_true] at this
          rcases this with h1 | h1
          · exact .inl (by simpa using h1)
          · obtain ⟨y, hy, he⟩ := List.any_eq_true.1 h1
            have := Nat.eq_of_beq_eq_true he
            subst this
            obtain ⟨k1, k2⟩ := posOf_ok hy
            refine .inr ⟨posOf I i, k1, ?_⟩
            unfold renIn
            have hb : Nat.blt i g = false := by
              cases hb : Nat.blt i g
              · rfl
              · have h3 : i < g := by simpa using hb
                have := (hIg _ _ k1).1; omega
            rw [hb]; rfl
        intro o ho hd D s2 a w β hC hb0 hB hargs hrd hwr K Q hK
        have hblkI : ∀ k i : Nat, I[k]? = some i → ∃ o, os[k]? = some (lend c.ro o) ∧ s2.blk i = some o := fun k i hi => by
          obtain ⟨o, a1, a2⟩ := o2 k i hi
          exact ⟨o, a1, by rw [hrd i (List.mem_of_getElem? hi)]; exact a2⟩
        have hnewfree : ∀ j, fresh ≤ j → j < fresh + m → s2.blk j = none := fun j h1 h2 => by
          have hl : look (wa ++ wb) j ≠ none := by
            rw [look_append, wb1, if_pos h1, List.getElem?_drop]
            have hlt : I.length + (j - fresh) < r.objs.length := by show _ < _; simp only [m] at h2; omega
            rw [List.getElem?_eq_getElem hlt]
            cases look wa j <;> simp
          cases hlk : look (wa ++ wb) j with
          | none => exact absurd hlk hl
          | some v =>
            obtain ⟨p, hp, he⟩ := look_mem hlk
            rw [← he, hwr p hp, he]; exact hfree j h1
        -- the numbers of the one who is called
        let βc : Bm := fun j => if j < g then β j else (I[j - g]?).bind β
        have hβcI : ∀ k i : Nat, I[k]? = some i → βc (g + k) = β i := fun k i hi => by
          show (if g + k < g then _ else (I[g + k - g]?).bind β) = _
          rw [if_neg (by omega), Nat.add_sub_cancel_left, hi]; rfl
        have hβcg : ∀ j, j < g → βc j = β j := fun j hj => by show (if j < g then _ else _) = _; rw [if_pos hj]
        have hren : ∀ l : List Nat, (∀ i ∈ l, i ∈ args.flatMap V.ids ++ os.flatMap Ob.ids) → RenOn (renIn g I) l β βc := fun l hl i hi p hp => by
          rcases hin i (hl i hi) with h1 | ⟨k, h1, h2⟩
          · have e : renIn g I i = i := by unfold renIn; rw [show Nat.blt i g = true from by simpa using h1]; rfl
            rw [e, hβcg i h1]; exact hp
          · rw [h2, hβcI k i h1]; exact hp
        have hgl : (gm X.G).length = g := by simp [gm, g]
        have hM : ∀ j o, (gm X.G ++ os.map (fun o => (o.ren (renIn g I)).blur))[j]? = some o → (j < g ∧ ∃ gg, X.G[j]? = some gg ∧ o = .mem false [.cells gg.2]) ∨ ∃ (k i : Nat) (o0 : Ob), j = g + k ∧ I[k]? = some i ∧ os[k]? = some (lend c.ro o0) ∧ s2.blk i = some o0 ∧ o = ((lend c.ro o0).ren (renIn g I)).blur := fun j o hj => by
          rcases Nat.lt_or_ge j g with h1 | h1
          · rw [List.getElem?_append_left (by rw [hgl]; exact h1)] at hj
            simp only [gm, List.getElem?_map] at hj
            cases hgg : X.G[j]? with
            | none => rw [hgg] at hj; cases hj
            | some gg => rw [hgg] at hj; cases hj; exact .inl ⟨h1, gg, rfl, rfl⟩
          · rw [List.getElem?_append_right (by rw [hgl]; exact h1), hgl, List.getElem?_map] at hj
            cases hoo : os[j - g]? with
            | none => rw [hoo] at hj; cases hj
            | some o0 =>
              rw [hoo] at hj; cases hj
              have hlt : j - g < I.length := by rw [← o1]; exact (List.getElem?_eq_some_iff.1 hoo).1
              obtain ⟨o', a1, a2⟩ := hblkI _ _ (List.getElem?_eq_getElem hlt)
              rw [hoo] at a1; cases a1
              exact .inr ⟨j - g, _, o', by omega, List.getElem?_eq_getElem hlt, hoo, a2, rfl⟩
        have hownOld : ∀ b, owned βc (gm X.G ++ os.map (fun o => (o.ren (renIn g I)).blur)) b → ∃ (k i : Nat) (o0 : Ob) (p : Pl), I[k]? = some i ∧ os[k]? = some o0 ∧ s2.blk i = some o0 ∧ o0.own = true ∧ β i = some p ∧ p.foot = some b := by
          rintro b ⟨j, o, p, h1, h2, h3, h4⟩
          rcases hM j o h1 with ⟨_, gg, _, rfl⟩ | ⟨k, i, o0, rfl, q1, q2, q3, rfl⟩
          · cases h2
          · rw [hβcI k i q1] at h3
            rw [Ob.blur_own, Ob.ren_own] at h2
            have hl := lend_own h2
            rw [hl] at h2 q2
            exact ⟨k, i, o0, p, q1, q2, q3, h2, h3, h4⟩
        have hownMay : ∀ b, owned βc (gm X.G ++ os.map (fun o => (o.ren (renIn g I)).blur)) b → D.B ≤ b ∨ D.F b := fun b hb => by
          obtain ⟨k, i, o0, p, _, _, q3, q4, q5, q6⟩ := hownOld b hb
          obtain ⟨p', r1, _, r3⟩ := hB.mem i o0 q3
          rw [q5] at r1; cases r1
          exact r3 q4 b q6
        have hH : HeapOk βc (gm X.G ++ os.map (fun o => (o.ren (renIn g I)).blur)) w := by
          refine ⟨fun j o hj => ?_, fun j p hj => ?_, fun j j' o o' p p' b hj hj' how hng hp hp' hf hf' => ?_⟩
          · rcases hM j o hj with ⟨h1, gg, h2, rfl⟩ | ⟨k, i, o0, rfl, q1, q2, q3, rfl⟩
            · obtain ⟨k1, k2, k3, k4⟩ := hB.glob j gg h2
              exact ⟨.blk gg.1, by rw [hβcg j h1]; exact k1, by have := Nat.le_trans hC.base hC.size; omega, segsOk_same (fun _ _ h => by cases h) rfl k4, fun h => by cases h⟩
            · obtain ⟨p, r1, r2, _⟩ := hB.mem i o0 q3
              refine ⟨p, by rw [hβcI k i q1]; exact r1, Ob.ok_blur (Ob.ok_ren (hren _ fun id hid => ?_) (lend_ok r2))⟩
              exact List.mem_append_right _ (List.mem_flatMap.2 ⟨lend c.ro o0, List.mem_of_getElem? q2, hid⟩)
          · have hj2 : (if j < g then β j else (I[j - g]?).bind β) = some p := hj
            split at hj2
            · rename_i h1
              exact ⟨_, List.getElem?_eq_getElem (by simp [hgl]; omega)⟩
            · rename_i h1
              cases hI : I[j - g]? with
              | none => rw [hI] at hj2; cases hj2
              | some i =>
                have := (List.getElem?_eq_some_iff.1 hI).1
                exact ⟨_, List.getElem?_eq_getElem (by simp [hgl]; omega)⟩
          · rcases hM j o hj with ⟨_, gg, _, rfl⟩ | ⟨k, i, o0, rfl, q1, q2, q3, rfl⟩
            · cases how
            · rw [Ob.blur_own, Ob.ren_own] at how
              rw [lend_own how] at how
              rw [hβcI k i q1] at hp
              rcases hM j' o' hj' with ⟨h1, gg, h2, rfl⟩ | ⟨k', i', o0', rfl, t1, t2, t3, rfl⟩
              · exfalso
                rw [hβcg j' h1, (hB.glob j' gg h2).1] at hp'
                cases hp'; cases hf'
                obtain ⟨p', r1, _, r3⟩ := hB.mem i o0 q3
                rw [hp] at r1; cases r1
                obtain ⟨_, k2, k3, _⟩ := hB.glob j' gg h2
                rcases r3 how gg.1 hf with h | h
                · omega
                · exact k3 h
              · rw [hβcI k' i' t1] at hp'
                have := hB.inj i i' o0 o0' p p' b q3 t3 how (lend_gone (Ob.gone_ren _ (Ob.gone_blur hng))) hp hp' hf hf'
                subst this
                rw [nodupB_ok hnd k k' i q1 t1]
        have hGl : GlobOk X.G βc w := fun j gg hj => by
          obtain ⟨k1, k2, _, k4⟩ := hB.glob j gg hj
          exact ⟨by rw [hβcg j (List.getElem?_eq_some_iff.1 hj).1]; exact k1, by have := Nat.le_trans hC.base hC.size; omega, k4⟩
        -- the run
        obtain ⟨dst, op, type, pos, after, guard⟩ := o
        simp only at ho hd hK ⊢; subst ho
        have e0 : (Op.call cl).operands.toList = x :: cl.args.toList := by simp [Op.operands, Call.operands, hcl]
        rw [e0] at hargs
        obtain ⟨hx, hargs⟩ := hargs
        have hx : a.eval x = .func (.func c.f) #[] #[] := hx
        have hrun : (execOp a.eval ⟨dst, .call cl, type, pos, after, guard⟩).run P w = .ok (.enter c.f (cl.args.toList.map a.eval).toArray) w := by
          have e : cl.args.map a.eval = (cl.args.toList.map a.eval).toArray := by apply Array.ext'; simp
          simp only [execOp, resolve, hcl, Deferred.ofValue, hx, Sem.run_bind, Sem.run_pure, Result.andThen_ok, invoke, callFunc, run_program, hfn, hname, hbody, Bool.false_eq_true, if_false, Array.empty_append, Array.append_empty, e]
        have hca : All2 (V.rel βc) (args.map fun v => (v.ren (renIn g I)).blur) (cl.args.toList.map a.eval) := by
          have := all2_map (R' := V.rel βc) (f := V.blur) (fun _ _ h => V.blur_rel h) (vs_ren (hren (args.flatMap V.ids) fun i hi => List.mem_append_left _ hi) hargs)
          rw [List.map_map] at this; exact this
        unfold Oper.wp
        rw [hrun]
        simp only [Oper.upon]
        refine (hrok βc (cl.args.toList.map a.eval) w hH hGl hca).mono ?_
        rintro e w' ⟨v, β', rfl, hle, hH', hmay', hv, hC'⟩
        refine hK _ _ ?_
        have hbase := Nat.le_trans hC.base hC.size
        -- the numbers behind it
        let β2 : Bm := fun i => if fresh ≤ i ∧ i < fresh + m then β' (g + I.length + (i - fresh)) else β i
        have hβold : ∀ i p, β i = some p → ¬ (fresh ≤ i ∧ i < fresh + m) := fun i p hp hi => by
          obtain ⟨u, hu⟩ := hB.dom i p hp
          rw [hnewfree i hi.1 hi.2] at hu; cases hu
        have hβ2old : ∀ i, ¬ (fresh ≤ i ∧ i < fresh + m) → β2 i = β i := fun i hi => by show (if _ then _ else _) = _; rw [if_neg hi]
        have hβ2new : ∀ i, fresh ≤ i → i < fresh + m → β2 i = β' (g + I.length + (i - fresh)) := fun i h1 h2 => by show (if _ then _ else _) = _; rw [if_pos ⟨h1, h2⟩]
        have hle2 : β.le β2 := fun i p hp => by rw [hβ2old i (hβold i p hp)]; exact hp
        have hβ'I : ∀ k i p, I[k]? = some i → β' (g + k) = some p → β i = some p := fun k i p hi hp => by
          obtain ⟨o, a1, a2⟩ := hblkI k i hi
          obtain ⟨p', r1, _, _⟩ := hB.mem i o a2
          have := hle (g + k) p' (by rw [hβcI k i hi]; exact r1)
          rw [hp] at this; cases this; exact r1
        have hout : ∀ l : List Nat, RenOn (renOut g I fresh) l β' β2 := fun l j _ p hp => by
          unfold renOut
          by_cases h1 : j < g
          · rw [show Nat.blt j g = true from by simpa using h1]
            simp only [if_true]
            rw [hβ2old j (by omega)]
            cases hgg : X.G[j]? with
            | none => rw [List.getElem?_eq_none_iff] at hgg; exact absurd h1 (by show ¬ j < X.G.length; omega)
            | some gg =>
              have k1 := (hB.glob j gg hgg).1
              have := hle j _ (by rw [hβcg j h1]; exact k1)
              rw [hp] at this; cases this; exact k1
          · have hb : Nat.blt j g = false := by
              cases hb : Nat.blt j g
              · rfl
              · exact absurd (by simpa using hb) h1
            rw [hb]
            simp only [Bool.false_eq_true, if_false]
            cases hI : I[j - g]? with
            | some i =>
              simp only
              have hif := hIg _ _ hI
              rw [hβ2old i (by omega)]
              exact hβ'I (j - g) i p hI (by rw [show g + (j - g) = j by omega]; exact hp)
            | none =>
              simp only
              rw [List.getElem?_eq_none_iff] at hI
              obtain ⟨o, hoj⟩ := hH'.dom j p hp
              have hjl := (List.getElem?_eq_some_iff.1 hoj).1
              simp only [List.length_append, hgl] at hjl
              have hjm : j - g - I.length < m := by simp only [m]; omega
              rw [hβ2new _ (by omega) (by omega), show g + I.length + (fresh + (j - g - I.length) - fresh) = j by omega]
              exact hp
        -- what is written
        have hlook : ∀ i, (look (wa ++ wb) i = none ∧ ¬ (fresh ≤ i ∧ i < fresh + m)) ∨ (∃ (k : Nat) (o0 q : Ob), I[k]? = some i ∧ os[k]? = some o0 ∧ s2.blk i = some o0 ∧ r.objs[k]? = some q ∧ look (wa ++ wb) i = some (some (q.ren (renOut g I fresh))) ∧ okObj o0 q) ∨
            (∃ (j : Nat) (q : Ob), i = fresh + j ∧ j < m ∧ r.objs[I.length + j]? = some q ∧ look (wa ++ wb) i = some (some (q.ren (renOut g I fresh))) ∧ (q = .gone ∨ q.own = true)) := fun i => by
          rw [look_append]
          cases h1 : look wa i with
          | some v =>
            obtain ⟨k, o0, q, a1, a2, a3, rfl, a5⟩ := wa1 i v h1
            obtain ⟨o', b1, b2⟩ := hblkI k i a1
            rw [a2] at b1
            have b1 := Option.some.inj b1
            have b3 := lend_own (o := o') (ro := c.ro) (by rw [← b1]; exact a5.1)
            have b1 : o0 = o' := by rw [b1, b3]
            subst b1
            rw [List.getElem?_take] at a3
            split at a3
            · exact .inr (.inl ⟨k, o0, q, a1, a2, b2, a3, rfl, a5⟩)
            · cases a3
          | none =>
            simp only
            rw [wb1]
            by_cases h2 : fresh ≤ i
            · rw [if_pos h2, List.getElem?_drop]
              by_cases h3 : i < fresh + m
              · have hlt : I.length + (i - fresh) < r.objs.length := by simp only [m] at h3; omega
                have hq := List.getElem?_eq_getElem hlt
                refine .inr (.inr ⟨i - fresh, _, by omega, by omega, hq, by rw [hq]; rfl, ?_⟩)
                exact wb2 (i - fresh) _ (by rw [List.getElem?_drop]; exact hq)
              · refine .inl ⟨?_, by omega⟩
                rw [List.getElem?_eq_none (by simp only [m] at h3; omega)]; rfl
            · rw [if_neg h2]; exact .inl ⟨rfl, by omega⟩
        have hM' : ∀ k q, r.objs[k]? = some q → (gm X.G ++ r.objs)[g + k]? = some q := fun k q hq => by
          rw [List.getElem?_append_right (by omega), hgl, Nat.add_sub_cancel_left]; exact hq
        have hunch : ∀ i o p, s2.blk i = some o → o ≠ .gone → β i = some p → look (wa ++ wb) i = none → ∀ b, p.foot = some b → w'.heap[b]? = w.heap[b]? := fun i o p h1 h2 h3 h4 b hb => by
          obtain ⟨p', r1, r2, _⟩ := hB.mem i o h1
          rw [h3] at r1; cases r1
          have hlt := Ob.foot_lt r2 h2 b hb
          refine hC'.block b hlt fun hF => ?_
          obtain ⟨k, i', o0, p', q1, q2, q3, q4, q5, q6⟩ := hownOld b hF
          have := hB.inj i' i o0 o p' p b q3 h1 q4 h2 q5 h3 q6 hb
          subst this
          obtain ⟨q, _, hq⟩ := wa2 k i' o0 q1 q2 q4
          rw [look_append, hq] at h4
          cases h4
        have hCw : Chg D w' := hC.later hC'.os hC'.tape hC'.output hC'.size (fun k hk hF => hC'.block k (by show k < w.heap.size; omega) fun hO => by
          rcases hownMay k hO with h1 | h1
          · omega
          · exact hF h1)
        have hblk : ∀ i, upd s2.blk (look (wa ++ wb)) i = match look (wa ++ wb) i with | some v => v | none => s2.blk i := fun i => by cases h : look (wa ++ wb) i <;> simp [upd, h]
        have hRep : RepB X D β2 ⟨s2.tmp, upd s2.blk (look (wa ++ wb))⟩ a w' := by
          refine ⟨hB.size, fun t => V.rel_mono hle2 _ _ (hB.tmps t), hB.defers, fun i o hi => ?_, fun i p hi => ?_, fun i i' o o' p p' b hi hi' how hng hp hp' hf hf' => ?_, fun i gg hgg => ?_⟩
          · simp only [hblk] at hi
            rcases hlook i with ⟨h1, h2⟩ | ⟨k, o0, q, h1, h2, h3, h4, h5, h6, h7⟩ | ⟨j, q, rfl, h2, h3, h4, h5⟩
            · rw [h1] at hi
              obtain ⟨p, r1, r2, r3⟩ := hB.mem i o hi
              refine ⟨p, hle2 i p r1, ?_, r3⟩
              by_cases hg : o = .gone
              · subst hg; exact trivial
              · exact Ob.ok_same hle2 hC'.size r2 (hunch i o p hi hg r1 h1)
            · rw [h5] at hi; cases hi
              obtain ⟨p', t1, t2⟩ := hH'.mem (g + k) q (hM' k q h4)
              obtain ⟨p, r1, _, r3⟩ := hB.mem i o0 h3
              have := hβ'I k i p' h1 t1
              exact ⟨p', hle2 i p' this, Ob.ok_ren (hout _) t2, fun _ => by rw [r1] at this; cases this; exact r3 h6⟩
            · rw [h4] at hi; cases hi
              obtain ⟨p', t1, t2⟩ := hH'.mem (g + (I.length + j)) q (hM' _ q h3)
              refine ⟨p', by rw [hβ2new _ (by omega) (by omega), show g + I.length + (fresh + j - fresh) = g + (I.length + j) by omega]; exact t1, Ob.ok_ren (hout _) t2, fun how => ?_⟩
              rw [Ob.ren_own] at how
              intro b hb
              rcases hmay' _ q p' (hM' _ q h3) how t1 b hb with h | h
              · exact .inl (Nat.le_trans hbase h)
              · exact hownMay b h
          · simp only [hblk]
            have hi2 : (if fresh ≤ i ∧ i < fresh + m then β' (g + I.length + (i - fresh)) else β i) = some p := hi
            rcases hlook i with ⟨h1, h2⟩ | ⟨k, o0, q, h1, h2, h3, h4, h5, h6⟩ | ⟨j, q, rfl, h2, h3, h4, h5⟩
            · rw [if_neg h2] at hi2
              rw [h1]; exact hB.dom i p hi2
            · rw [h5]; exact ⟨_, rfl⟩
            · rw [h4]; exact ⟨_, rfl⟩
          · simp only [hblk] at hi hi'
            -- an object's place among those of the one who was called, or that it is an old one
            rcases hlook i with ⟨h1, h2⟩ | ⟨k, o0, q, h1, h2, h3, h4, h5, h6, h7⟩ | ⟨j, q, rfl, h2, h3, h4, h5⟩
            · -- an old one of one's own that was not handed over
              rw [h1] at hi
              have hpi : β i = some p := by rw [← hβ2old i h2]; exact hp
              rcases hlook i' with ⟨k1, k2⟩ | ⟨k, o0, q, k1, k2, k3, k4, k5, k6, k7⟩ | ⟨j, q, rfl, k2, k3, k4, k5⟩
              · rw [k1] at hi'
                exact hB.inj i i' o o' p p' b hi hi' how hng hpi (by rw [← hβ2old i' k2]; exact hp') hf hf'
              · have hif := hIg _ _ k1
                rw [hβ2old i' (by omega)] at hp'
                exact hB.inj i i' o o0 p p' b hi k3 how (fun e => by rw [e] at k6; cases k6) hpi hp' hf hf'
              · exfalso
                rw [k4] at hi'; cases hi'
                have hqo : q.own = true := k5.resolve_left (Ob.gone_ren _ hng)
                rw [hβ2new _ (by omega) (by omega), show g + I.length + (fresh + j - fresh) = g + (I.length + j) by omega] at hp'
                obtain ⟨pp, r1, r2, _⟩ := hB.mem i o hi
                rw [hpi] at r1; cases r1
                have hlt := Ob.foot_lt r2 (fun e => by rw [e] at how; cases how) b hf
                rcases hmay' _ q p' (hM' _ q k3) hqo hp' b hf' with h | h
                · have : w.heap.size ≤ b := h; omega
                · obtain ⟨k, i0, o1, p1, t1, t2, t3, t4, t5, t6⟩ := hownOld b h
                  have := hB.inj i i0 o o1 p p1 b hi t3 how (fun e => by rw [e] at t4; cases t4) hpi t5 hf t6
                  subst this
                  obtain ⟨q', _, hq'⟩ := wa2 k i o1 t1 t2 t4
                  rw [look_append, hq'] at h1
                  cases h1
            · have hif := hIg _ _ h1
              have hpi : β i = some p := by rw [← hβ2old i (by omega)]; exact hp
              rcases hlook i' with ⟨k1, k2⟩ | ⟨k', o0', q', k1, k2, k3, k4, k5, k6, k7⟩ | ⟨j, q', rfl, k2, k3, k4, k5⟩
              · rw [k1] at hi'
                exact hB.inj i i' o0 o' p p' b h3 hi' h6 hng hpi (by rw [← hβ2old i' k2]; exact hp') hf hf'
              · have hif' := hIg _ _ k1
                rw [hβ2old i' (by omega)] at hp'
                exact hB.inj i i' o0 o0' p p' b h3 k3 h6 (fun e => by rw [e] at k6; cases k6) hpi hp' hf hf'
              · exfalso
                rw [k4] at hi'; cases hi'
                rw [h5] at hi; cases hi
                rw [hβ2new _ (by omega) (by omega), show g + I.length + (fresh + j - fresh) = g + (I.length + j) by omega] at hp'
                have hpk : β' (g + k) = some p := hle (g + k) p (by rw [hβcI k i h1]; exact hpi)
                rw [Ob.ren_own] at how
                have := hH'.inj (g + k) (g + (I.length + j)) q q' p p' b (hM' k q h4) (hM' _ q' k3) how (Ob.gone_ren _ hng) hpk hp' hf hf'
                have := (List.getElem?_eq_some_iff.1 h1).1
                omega
            · rw [h4] at hi; cases hi
              rw [Ob.ren_own] at how
              rw [hβ2new _ (by omega) (by omega), show g + I.length + (fresh + j - fresh) = g + (I.length + j) by omega] at hp
              have hown := hmay' _ q p (hM' _ q h3) how hp b hf
              rcases hlook i' with ⟨k1, k2⟩ | ⟨k', o0', q', k1, k2, k3, k4, k5, k6, k7⟩ | ⟨j', q', rfl, k2, k3, k4, k5⟩
              · exfalso
                rw [k1] at hi'
                rw [hβ2old i' k2] at hp'
                obtain ⟨pp, r1, r2, _⟩ := hB.mem i' o' hi'
                rw [hp'] at r1; cases r1
                have hlt := Ob.foot_lt r2 hng b hf'
                rcases hown with h | h
                · have : w.heap.size ≤ b := h; omega
                · obtain ⟨k, i0, o1, p1, t1, t2, t3, t4, t5, t6⟩ := hownOld b h
                  have := hB.inj i0 i' o1 o' p1 p' b t3 hi' t4 hng t5 hp' t6 hf'
                  subst this
                  obtain ⟨q', _, hq'⟩ := wa2 k i0 o1 t1 t2 t4
                  rw [look_append, hq'] at k1
                  cases k1
              · exfalso
                have hif' := hIg _ _ k1
                rw [k5] at hi'; cases hi'
                rw [hβ2old i' (by omega)] at hp'
                have hpk : β' (g + k') = some p' := hle (g + k') p' (by rw [hβcI k' i' k1]; exact hp')
                have := hH'.inj (g + (I.length + j)) (g + k') q q' p p' b (hM' _ q h3) (hM' k' q' k4) how (Ob.gone_ren _ hng) hp hpk hf hf'
                have := (List.getElem?_eq_some_iff.1 k1).1
                omega
              · rw [k4] at hi'; cases hi'
                rw [hβ2new _ (by omega) (by omega), show g + I.length + (fresh + j' - fresh) = g + (I.length + j') by omega] at hp'
                have := hH'.inj (g + (I.length + j)) (g + (I.length + j')) q q' p p' b (hM' _ q h3) (hM' _ q' k3) how (Ob.gone_ren _ hng) hp hp' hf hf'
                omega
          · obtain ⟨k1, k2, k3, k4⟩ := hB.glob i gg hgg
            refine ⟨hle2 i _ k1, k2, k3, segsOk_same (Bm.le_refl _) (hC'.block gg.1 (by show gg.1 < w.heap.size; omega) fun hO => ?_) k4⟩
            rcases hownMay gg.1 hO with h | h
            · omega
            · exact k3 h
        exact ⟨hCw, β2, Bm.le_trans hb0 hle2, hRep.put hd (V.rel_ren (hout _) hv)⟩
    · cases h
theorem callOf_ok {G : List (Nat × List L)} {n : Nat} {cs : List Con} (hcs : ∀ c ∈ cs, c.ok P G) : CallHOk P ⟨G, n⟩ (callOf P G cs) := by
  intro f args s fresh l h hfree cl x hcl
  unfold callOf at h
  split at h
  · rename_i c fn hc hfn
    split at h
    · cases h
    · rename_i hb
      simp only [Bool.or_eq_true, not_or, Bool.not_eq_true] at hb
      have hf := List.find?_some hc
      have := Nat.eq_of_beq_eq_true hf
      subst this
      exact call_eff (X := ⟨G, n⟩) (hcs c (List.mem_of_find?_eq_some hc)) hfree h hfn hb.1 hb.2 cl x hcl
  · cases h
/-- a function keeps its promise if the condition of its text holds -/
theorem con_ok {G : List (Nat × List L)} {cs : List Con} (hcs : ∀ c ∈ cs, c.ok P G) {c : Con} {fn : Func} {body : Code} (hfn : P.funcs[c.f]? = some fn) (hb : fn.body = some body)
    (H : ∀ args h l, c.paths args h = some l → ∃ r ∈ l, holdsP r.g ∧ (holdsP r.need → ∃ anns, fnVC P G (callOf P G cs) anns fn body args h r)) : c.ok P G := by
  intro args h l hl
  obtain ⟨r, h1, h2, h3⟩ := H args h l hl
  exact ⟨r, h1, h2, fun hn β xs w hH hg hx => let ⟨anns, hv⟩ := h3 hn; fnVC_ok (callOf_ok hcs) hfn hb hv hH hg hx⟩
end
end Go.Proofs.YtcecdpebapkfaaaHy
namespace Go.Proofs.YtcecdpebapkfaaaHy
open Go Go.RowKit Go.ChangeShapes Go.WideShapes Go.Deep

/-! ### kinds -/
inductive CK where
  | int (k : IntKind)
  | bool
inductive AK where
  | one (c : CK)
  | agg (cs : List CK)
  | list (e : TypeId) (bytes : Nat) (cs : List CK)
def ckOf (P : Program) (t : TypeId) : Option CK := match P.underlying t with
  | some .bool => some .bool
  | some (.int k) => some (.int k)
  | _ => none
def cksOf (P : Program) : List TypeId → Option (List CK)
  | [] => some []
  | t :: ts => match ckOf P t, cksOf P ts with
    | some c, some cs => some (c :: cs)
    | _, _ => none
def akList (P : Program) (e : TypeId) : Option AK := match P.underlying e with
  | some (.struct fs) => if oneCellFields P fs && Nat.beq (P.cellsOf e) fs.size then (match cksOf P (fs.toList.map (·.type)) with | some cs => some (.list e (P.bytesOf e) cs) | none => none) else none
  | _ => if Nat.beq (P.cellsOf e) 1 then (match ckOf P e with | some c => some (.list e (P.bytesOf e) [c]) | none => none) else none
def akAgg (P : Program) (t : TypeId) : Option AK := match P.cellTypes P.depth t with
  | some ts => if Nat.beq (P.cellsOf t) ts.length then (match cksOf P ts with | some cs => some (.agg cs) | none => none) else none
  | none => none
def akOf (P : Program) (t : TypeId) : Option AK := match P.underlying t with
  | some (.struct _) | some (.array _ _) => akAgg P t
  | some (.slice e) => akList P e
  | _ => match ckOf P t with
    | some c => some (.one c)
    | none => none
def aksOf (P : Program) : List TypeId → Option (List AK)
  | [] => some []
  | t :: ts => match akOf P t, aksOf P ts with
    | some k, some ks => some (k :: ks)
    | _, _ => none
def CK.l (c : CK) (l : L) : Prop := match c with
  | .int k => ∃ n : Int, l = .int k (.tm n) ∧ k.min ≤ n ∧ n ≤ k.max
  | .bool => ∃ b : Bool, l = .bool (.tm b)
def CK.col (n : Nat) (c : CK) (col : Col) : Prop := match c with
  | .int k => ∃ f : Nat → Int, col = .ints k f ∧ ∀ i, i < n → k.min ≤ f i ∧ f i ≤ k.max
  | .bool => ∃ f : Nat → Bool, col = .bools f
def shapes : List AK → Nat → List V → List Ob → Prop
  | [], _, vs, h => vs = [] ∧ h = []
  | .one c :: ks, id, vs, h => ∃ l vs', vs = .val (.one l) :: vs' ∧ c.l l ∧ shapes ks id vs' h
  | .agg cs :: ks, id, vs, h => ∃ ls vs', vs = .val (.agg ls) :: vs' ∧ All2 CK.l cs ls ∧ shapes ks id vs' h
  | .list e bytes cs :: ks, id, vs, h => ∃ n cols vs' h', vs = .val (.one (.vec id)) :: vs' ∧ h = .vec false e n cols :: h' ∧ n * bytes ≤ 140737488351232 ∧ All2 (CK.col n) cs cols ∧ shapes ks (id + 1) vs' h'

section
variable {P : Program} {w : World}
theorem ck_cell {r : Reach} {base : Nat} {t : TypeId} {c : CK} (hc : ckOf P t = some c) {x : Value} (hx : Cell.okWide P w r base t x) : ∃ l, c.l l ∧ ∀ β : Bm, l.rel β x := by
  unfold ckOf at hc
  split at hc
  · rename_i ht
    cases hc
    unfold Cell.okWide at hx
    split at hx <;> simp_all [Cell.ok]
    split at hx <;> simp_all
    rename_i b
    exact ⟨.bool (.tm b), ⟨b, rfl⟩, fun β => rfl⟩
  · rename_i k ht
    cases hc
    unfold Cell.okWide at hx
    rw [ht] at hx
    have h2 : Cell.ok P w r base t x := by split at hx <;> first | exact hx | simp_all
    unfold Cell.ok at h2
    rw [ht] at h2
    cases x <;> simp only at h2
    rename_i k' n
    obtain ⟨rfl, h3⟩ := h2
    exact ⟨.int k' (.tm n), ⟨n, rfl, h3⟩, fun β => rfl⟩
  · cases hc
theorem ck_cells {r : Reach} {base : Nat} : ∀ {ts : List TypeId} {cs : List CK}, cksOf P ts = some cs → ∀ xs : List Value, xs.length = ts.length → (∀ (i : Nat) v, xs[i]? = some v → ∃ u, ts[i]? = some u ∧ Cell.okWide P w r base u v) →
    ∃ ls, All2 CK.l cs ls ∧ ∀ β : Bm, All2 (L.rel β) ls xs
  | [], cs, h, xs, hl, _ => by
    cases h
    cases xs with
    | nil => exact ⟨[], trivial, fun _ => trivial⟩
    | cons _ _ => simp at hl
  | t :: ts, cs, h, xs, hl, hx => by
    unfold cksOf at h
    split at h
    · rename_i c cs' h1 h2
      cases h
      cases xs with
      | nil => simp at hl
      | cons v xs =>
        obtain ⟨u, hu, hok⟩ := hx 0 v rfl
        simp at hu; subst hu
        obtain ⟨l, a1, a2⟩ := ck_cell h1 hok
        obtain ⟨ls, b1, b2⟩ := ck_cells h2 xs (by simpa using hl) (fun i v hi => by simpa using hx (i + 1) v (by simpa using hi))
        exact ⟨l :: ls, ⟨a1, b1⟩, fun β => ⟨a2 β, b2 β⟩⟩
    · cases h
theorem wf_int {k : IntKind} {n : Int} (h : (Lit.int k n).wf = true) : k.min ≤ n ∧ n ≤ k.max := by
  simpa [Lit.wf, Bool.and_eq_true] using h
theorem ck_trod {H : Type} {enc : TypeId × Value → H} {base : Nat} {spare : Nat → Bool} {held : Bool} {t : TypeId} {c : CK} (hc : ckOf P t = some c) {fuel : Nat} {x : Value} {y : DataW H × List MemPlace} (hx : DataW.trod enc P w base spare held fuel t [x] = some y) : ∃ l, c.l l ∧ ∀ β : Bm, l.rel β x := by
  unfold ckOf at hc
  split at hc
  · rename_i ht
    cases hc
    obtain ⟨b, h1, _⟩ := DataW.trod_bool ht hx
    cases h1
    exact ⟨.bool (.tm b), ⟨b, rfl⟩, fun β => rfl⟩
  · rename_i k ht
    cases hc
    obtain ⟨n, h1, _, h3⟩ := DataW.trod_int ht hx
    cases h1
    exact ⟨.int k (.tm n), ⟨n, rfl, wf_int h3⟩, fun β => rfl⟩
  · cases hc
/-- a column that stands for a row's cells -/
theorem ck_col {c : CK} {n : Nat} {V : Nat → Value} (h : ∀ i, i < n → ∃ l, c.l l ∧ ∀ β : Bm, l.rel β (V i)) : ∃ col, CK.col n c col ∧ ∀ i, i < n → Col.rel col i (V i) := by
  cases c with
  | int k =>
    refine ⟨.ints k (fun i => match V i with | .int _ m => m | _ => 0), ⟨_, rfl, fun i hi => ?_⟩, fun i hi => ?_⟩
    · obtain ⟨l, ⟨m, rfl, hm⟩, hr⟩ := h i hi
      have := hr (fun _ => none)
      simp only [L.rel, N.v] at this
      rw [this]; exact hm
    · obtain ⟨l, ⟨m, rfl, hm⟩, hr⟩ := h i hi
      have := hr (fun _ => none)
      simp only [L.rel, N.v] at this
      simp only [Col.rel, this]
  | bool =>
    refine ⟨.bools (fun i => match V i with | .bool b => b | _ => false), ⟨_, rfl⟩, fun i hi => ?_⟩
    obtain ⟨l, ⟨b, rfl⟩, hr⟩ := h i hi
    have := hr (fun _ => none)
    simp only [L.rel, B.v] at this
    simp only [Col.rel, this]
theorem ck_cols {n : Nat} {V : Nat → Nat → Value} : ∀ {cs : List CK} (j0 : Nat), (∀ (j : Nat) c, cs[j]? = some c → ∀ i, i < n → ∃ l, c.l l ∧ ∀ β : Bm, l.rel β (V (j0 + j) i)) →
    ∃ cols, All2 (CK.col n) cs cols ∧ cols.length = cs.length ∧ ∀ (j : Nat) c, cols[j]? = some c → ∀ i, i < n → Col.rel c i (V (j0 + j) i)
  | [], _, _ => ⟨[], trivial, rfl, fun j c h => by simp at h⟩
  | c :: cs, j0, h => by
    obtain ⟨col, a1, a2⟩ := ck_col (n := n) (V := V (j0 + 0)) (h 0 c rfl)
    obtain ⟨cols, b1, b2, b3⟩ := ck_cols (n := n) (V := V) (cs := cs) (j0 + 1) (fun j c hj i hi => by
      have := h (j + 1) c (by simpa using hj) i hi
      rwa [show j0 + (j + 1) = j0 + 1 + j by omega] at this)
    refine ⟨col :: cols, ⟨a1, b1⟩, by simp [b2], fun j c hj i hi => ?_⟩
    cases j with
    | zero => simp at hj; subst hj; exact a2 i hi
    | succ j => rw [show j0 + (j + 1) = j0 + 1 + j by omega]; exact b3 j c (by simpa using hj) i hi
theorem cks_get : ∀ {ts : List TypeId} {cs : List CK}, cksOf P ts = some cs → cs.length = ts.length ∧ ∀ (j : Nat) t, ts[j]? = some t → ∃ c, cs[j]? = some c ∧ ckOf P t = some c
  | [], cs, h => by cases h; exact ⟨rfl, fun j t h => by simp at h⟩
  | t0 :: ts, cs, h => by
    unfold cksOf at h
    split at h
    · rename_i c cs' h1 h2
      cases h
      obtain ⟨a, b⟩ := cks_get h2
      refine ⟨by simp [a], fun j t hj => ?_⟩
      cases j with
      | zero => simp at hj; subst hj; exact ⟨c, rfl, h1⟩
      | succ j => simpa using b j t (by simpa using hj)
    · cases h
variable {H : Type} {enc : TypeId × Value → H}
/-- the argument that is a list -/
structure ListArg (P : Program) (w : World) (e : TypeId) (bytes : Nat) (cs : List CK) (x : Value) (d : DataW H) : Prop where
  ex : ∃ n cols, All2 (CK.col n) cs cols ∧ (Ob.vec false e n cols).ok (fun _ => none) w (.val x) ∧ (∃ a m c, x = .slice a m c) ∧ (n = 0 ∨ ∃ elems rest, d = .slice elems rest ∧ elems.length = n)
theorem addr_at (b o n : Nat) : (⟨b, o, none⟩ : Addr).add n = ⟨b, o + n, none⟩ := by
  unfold Addr.add; split
  · rename_i h; subst h; rfl
  · rfl
theorem list_arg {r : Reach} {base b2 : Nat} {sp : Nat → Bool} {held : Bool} {t e : TypeId} {bytes : Nat} {cs : List CK} {k : AK} (ht : P.underlying t = some (.slice e)) (hk : akList P e = some k) (hke : k = .list e bytes cs) {x : Value} {d : DataW H} {p : List MemPlace}
    (hx : Value.okWide P w r base t x) (h : DataW.Trod enc P w b2 sp held t x d p) : ListArg (H := H) P w e bytes cs x d := by
  obtain ⟨a0, len0, cap0, rfl⟩ := okWide_slice ht hx
  have hcell : Cell.okWide P w r base t (.slice a0 len0 cap0) := by
    unfold Value.okWide at hx; rw [ht] at hx; exact hx
  have hspot : ∀ a, a0 = some a → a.spot = none ∧ a.block < w.heap.size := by
    rintro a rfl
    unfold Cell.okWide at hcell
    rw [ht] at hcell
    simp only [Cell.ok, ht] at hcell
    obtain ⟨_, _, _, h2, row, cells, h3, _⟩ := hcell
    refine ⟨h2, ?_⟩
    have hne : w.heap[a.block]? ≠ none := by intro hn; simp [World.shape?, hn] at h3
    by_cases hl : a.block < w.heap.size
    · exact hl
    · exact absurd (Array.getElem?_eq_none (Nat.le_of_not_lt hl)) hne
  obtain ⟨fuel, hf⟩ := h
  have hcl : (Value.slice a0 len0 cap0).cells.toList = [.slice a0 len0 cap0] := rfl
  rw [hcl] at hf
  subst hke
  have fin : ∀ (W0 : Nat → Nat → Value), (∀ a, a0 = some a → ∀ i, i < len0 → ∀ j, j < cs.length → w.cell? (a.add (i * cs.length + j)) = some (W0 j i)) → (∀ (j : Nat) c, cs[j]? = some c → ∀ i, i < len0 → ∃ l, c.l l ∧ ∀ β : Bm, l.rel β (W0 j i)) →
      (a0 = none → len0 = 0) → len0 ≤ cap0 → cap0 ≤ maxLen → (len0 = 0 ∨ ∃ elems rest, d = .slice elems rest ∧ elems.length = len0) → ListArg (H := H) P w e bytes cs (.slice a0 len0 cap0) d := by
    intro W0 h1 h2 h3 h4 h5 h6
    obtain ⟨cols, c1, c2, c3⟩ := ck_cols (n := len0) (V := W0) (cs := cs) 0 (fun j c hj i hi => by rw [Nat.zero_add]; exact h2 j c hj i hi)
    refine ⟨len0, cols, c1, ?_, ⟨_, _, _, rfl⟩, h6⟩
    have hm : len0 ≤ 9223372036854775807 := by unfold maxLen at h5; omega
    cases ha : a0 with
    | none =>
      have := h3 ha
      subst this
      exact ⟨hm, .inl ⟨cap0, rfl, rfl, fun h => by cases h⟩⟩
    | some a =>
      obtain ⟨s1, s2⟩ := hspot a ha
      obtain ⟨ab, ao, asp⟩ := a
      simp only at s1; subst s1
      refine ⟨hm, .inr ⟨ab, ao, cap0, rfl, s2, h4, fun i hi j c hj => ?_, fun h => by cases h⟩⟩
      have hjl : j < cs.length := by rw [← c2]; exact (List.getElem?_eq_some_iff.1 hj).1
      refine ⟨W0 j i, ?_, by have := c3 j c hj i hi; rwa [Nat.zero_add] at this⟩
      have := h1 _ ha i hi j hjl
      rw [addr_at] at this
      rw [c2, Nat.add_assoc]; exact this
  unfold akList at hk
  split at hk
  · rename_i fs he
    split at hk
    · rename_i hc
      simp only [Bool.and_eq_true] at hc
      have hC := Nat.eq_of_beq_eq_true hc.2
      split at hk
      · rename_i cs' hcs
        cases hk
        obtain ⟨g1, g2⟩ := cks_get hcs
        have g1' : cs.length = fs.size := by rw [g1]; simp
        rcases open_slice ht hf with ⟨h0, hd⟩ | ⟨a, len, cap, m, n, D, Pl, hcs', hb, hl, hm, hmm, hx', hi⟩
        · cases h0
          exact fin (fun _ _ => default) (fun a h => by cases h) (fun j c _ i hi => by omega) (fun _ => rfl) (Nat.le_refl _) (by decide) (.inl rfl)
        · cases hcs'
          have hlm : len0 ≤ m := by rw [hmm]; split <;> omega
          refine fin (fun j i => (w.cell? (a.add (i * cs.length + j))).getD default) (fun a' ha i hi' j hj => ?_) (fun j c hj i hi' => ?_) (fun h => by cases h) hl hm (.inr ⟨_, _, by cases hx'; rfl, by simp⟩)
          · cases ha
            obtain ⟨cs', q1, q2⟩ := hi i (by omega)
            rw [hC] at q1
            obtain ⟨_, qcl, hat⟩ := World.cells?_some q1
            have := hat j (by omega)
            rw [Go.Deep.add_add] at this
            rw [g1', this]
            have : cs'[j]? = some (cs'[j]'(by omega)) := List.getElem?_eq_getElem (by omega)
            rw [this]; rfl
          · obtain ⟨cs', q1, q2⟩ := hi i (by omega)
            rw [hC] at q1
            obtain ⟨_, qcl, hat⟩ := World.cells?_some q1
            have hjl : j < fs.size := by rw [← g1']; exact (List.getElem?_eq_some_iff.1 hj).1
            have hcj := hat j hjl
            rw [Go.Deep.add_add] at hcj
            have hv : cs'[j]? = some (cs'[j]'(by omega)) := List.getElem?_eq_getElem (by omega)
            rw [hv] at hcj
            obtain ⟨ys, n', hn', hy, hlen, hyl, hff⟩ := DataW.trod_struct he q2
            have hfj : fs[j]? = some (fs[j]'hjl) := Array.getElem?_eq_getElem hjl
            obtain ⟨ho, hk2⟩ := hone_of hc.1 j _ hfj
            have h1 := hff j _ hfj
            rw [ho, hk2] at h1
            have hone' : (cs'.drop j).take 1 = [cs'[j]'(by omega)] := by
              rw [List.drop_eq_getElem_cons (by omega)]
              rfl
            rw [hone'] at h1
            have hys : ys[j]? = some (ys[j]'(by omega)) := List.getElem?_eq_getElem (by omega)
            obtain ⟨c', e1, e2⟩ := g2 j (fs[j]'hjl).type (by simp [hjl])
            rw [hj] at e1; cases e1
            simp only [g1', hcj, Option.getD_some]
            exact ck_trod e2 (h1.trans hys)
      · cases hk
    · cases hk
  · split at hk
    · rename_i hc
      have hC := Nat.eq_of_beq_eq_true hc
      split at hk
      · rename_i c hcs
        cases hk
        rcases open_slice1 ht hC hf with ⟨h0, hd⟩ | ⟨a, len, cap, m, n, V, D, Pl, hcs', hb, hl, hm, hmm, hx', hi⟩
        · cases h0
          exact fin (fun _ _ => default) (fun a h => by cases h) (fun j c _ i hi => by omega) (fun _ => rfl) (Nat.le_refl _) (by decide) (.inl rfl)
        · cases hcs'
          have hlm : len0 ≤ m := by rw [hmm]; split <;> omega
          refine fin (fun _ i => V i) (fun a' ha i hi' j hj => ?_) (fun j c' hj i hi' => ?_) (fun h => by cases h) hl hm (.inr ⟨_, _, by cases hx'; rfl, by simp⟩)
          · cases ha
            have : j = 0 := by simpa using hj
            subst this
            simpa using (hi i (by omega)).1
          · have : j = 0 := by have := (List.getElem?_eq_some_iff.1 hj).1; simpa using this
            subst this
            simp at hj; subst hj
            exact ck_trod hcs (hi i (by omega)).2
      · cases hk
    · cases hk
end

/-! ### all arguments -/
structure ArgsOk (P : Program) (w : World) (ks : List AK) (id : Nat) (xs : List Value) (vs : List V) (h : List Ob) (pl : List Pl) : Prop where
  sh : shapes ks id vs h
  len : pl.length = h.length
  rel : ∀ β : Bm, (∀ (i : Nat) (p : Pl), pl[i]? = some p → β (id + i) = some p) → All2 (V.rel β) vs xs
  ok : ∀ (β : Bm) (i : Nat) (o : Ob) (p : Pl), h[i]? = some o → pl[i]? = some p → o.ok β w p
  own : ∀ o ∈ h, o.own = false
theorem vec_any {β β' : Bm} {w : World} {own : Bool} {e : TypeId} {n : Nat} {cols : List Col} {p : Pl} (h : (Ob.vec own e n cols).ok β w p) : (Ob.vec own e n cols).ok β' w p := by
  cases p with
  | blk _ => exact h.elim
  | val x => exact h
theorem args_ok {P : Program} {w : World} {H : Type} {enc : TypeId × Value → H} {r : Reach} {base b2 : Nat} {sp : Nat → Bool} {held : Bool} : ∀ {ts : List TypeId} {ks : List AK}, aksOf P ts = some ks → ∀ (id : Nat) (xs : List Value) (ds : List (DataW H)) (ps : List MemPlace),
    (∀ (j : Nat) t v, ts[j]? = some t → xs[j]? = some v → Value.okWide P w r base t v) → DataW.TrodAll enc P w b2 sp held ts xs ds ps → (DataW.weightsEach P ts ds).all (· ≤ reachBytes) = true →
    ∃ vs h pl, ArgsOk P w ks id xs vs h pl
  | [], ks, hk, id, xs, ds, ps, _, hA, _ => by
    cases hk
    cases xs with
    | nil => exact ⟨[], [], [], ⟨rfl, rfl⟩, rfl, fun _ _ => trivial, fun β i o p h => by simp at h, fun o h => by cases h⟩
    | cons _ _ => cases ds <;> exact hA.elim
  | t :: ts, ks, hk, id, xs, ds, ps, hv, hA, hsz => by
    unfold aksOf at hk
    split at hk
    · rename_i k ks' h1 h2
      cases hk
      match xs, ds, hA with
      | x :: xs, d :: ds, hA =>
        obtain ⟨p, q, hp, hq, rfl⟩ := hA
        have hx := hv 0 t x rfl rfl
        have hsz2 : (DataW.weightsEach P ts ds).all (· ≤ reachBytes) = true := by
          simp only [DataW.weightsEach, List.all_append, Bool.and_eq_true] at hsz; exact hsz.2
        have rec' := fun id => args_ok h2 id xs ds q (fun j t v a b => hv (j + 1) t v (by simpa using a) (by simpa using b)) hq hsz2
        have one : ∀ v, (∀ vs h, shapes ks' id vs h → shapes (k :: ks') id (v :: vs) h) → (∀ β : Bm, v.rel β x) → ∃ vs h pl, ArgsOk P w (k :: ks') id (x :: xs) vs h pl := fun v hs hr => by
          obtain ⟨vs, h, pl, a⟩ := rec' id
          exact ⟨v :: vs, h, pl, hs _ _ a.sh, a.len, fun β hb => ⟨hr β, a.rel β hb⟩, a.ok, a.own⟩
        have agg : akAgg P t = some k → (∃ cs, x = .agg cs ∧ cs.size = P.cellsOf t ∧ Row.okWide P w r base t cs) → ∃ vs h pl, ArgsOk P w (k :: ks') id (x :: xs) vs h pl := by
          rintro hk ⟨cs, rfl, hs, tys, hts, _, hcell⟩
          unfold akAgg at hk
          rw [hts] at hk
          simp only at hk
          split at hk
          · rename_i hb
            have hb := Nat.eq_of_beq_eq_true hb
            split at hk
            · rename_i cks hcks
              cases hk
              obtain ⟨ls, g1, g2⟩ := ck_cells hcks cs.toList (by rw [← hb, ← hs]; simp) (fun i v hi => by
                have hi' : cs[i]? = some v := by simpa using hi
                obtain ⟨u, hu, hok⟩ := hcell i v hi'
                have hlt : i < tys.length := by rw [← hb, ← hs]; exact (Array.getElem?_eq_some_iff.1 hi').1
                rw [Nat.mod_eq_of_lt hlt] at hu
                exact ⟨u, hu, hok⟩)
              exact one (.val (.agg ls)) (fun vs h hh => ⟨ls, vs, rfl, g1, hh⟩) (fun β => ⟨cs, rfl, g2 β⟩)
            · cases hk
          · cases hk
        unfold akOf at h1
        have hx0 := hx
        unfold Value.okWide at hx
        split at h1
        · rename_i ht; rw [ht] at hx; exact agg h1 hx
        · rename_i ht; rw [ht] at hx; exact agg h1 hx
        · rename_i e ht
          obtain ⟨bytes, cs, hke⟩ : ∃ bytes cs, k = .list e bytes cs := by
            have h1' := h1
            unfold akList at h1'
            split at h1' <;> (split at h1' <;> (try cases h1') <;> (split at h1' <;> cases h1'; exact ⟨_, _, rfl⟩))
          have hby : bytes = P.bytesOf e := by
            subst hke
            have h1' := h1
            unfold akList at h1'
            split at h1' <;> (split at h1' <;> (try cases h1') <;> (split at h1' <;> cases h1'; rfl))
          obtain ⟨n, cols, c1, c2, ⟨a, m, c, rfl⟩, c3⟩ := list_arg ht h1 hke hx0 hp
          obtain ⟨vs, h, pl, A⟩ := rec' (id + 1)
          have hsize : n * bytes ≤ 140737488351232 := by
            rcases c3 with rfl | ⟨elems, rest, hd, hl⟩
            · simp
            · have := sized_slice hsz (j := 0) (t := t) (e := e) (elems := elems) (spare := rest) rfl (by rw [← hd]; rfl) ht
              rw [hl, ← hby] at this
              have h3 : n * bytes ≤ (n + rest.length) * bytes := Nat.mul_le_mul_right _ (by omega)
              unfold reachBytes at this
              omega
          subst hke
          refine ⟨.val (.one (.vec id)) :: vs, .vec false e n cols :: h, .val (.slice a m c) :: pl, ⟨n, cols, vs, h, rfl, rfl, hsize, c1, A.sh⟩, by simp [A.len], fun β hb => ⟨?_, A.rel β (fun i p hi => ?_)⟩, fun β i o p ho hp => ?_, fun o ho => ?_⟩
          · have := hb 0 _ rfl
            exact ⟨this, a, m, c, rfl⟩
          · have := hb (i + 1) p (by simpa using hi)
            rwa [show id + (i + 1) = id + 1 + i by omega] at this
          · cases i with
            | zero => simp at ho hp; subst ho; subst hp; exact vec_any c2
            | succ i => exact A.ok β i o p (by simpa using ho) (by simpa using hp)
          · rcases List.mem_cons.1 ho with rfl | ho
            · rfl
            · exact A.own o ho
        · rename_i hn1 hn2 hn3
          have hx' : Cell.okWide P w r base t x := by
            split at hx
            · rename_i e; exact (hn1 _ e).elim
            · rename_i e; exact (hn2 _ _ e).elim
            · exact hx
          split at h1
          · rename_i c hc
            cases h1
            obtain ⟨l, g1, g2⟩ := ck_cell hc hx'
            exact one (.val (.one l)) (fun vs h hh => ⟨l, vs, rfl, g1, hh⟩) g2
          · cases h1
    · cases hk
/-- a law's contract: on whatever arguments of its kinds, each of its ways needs nothing more and answers true -/
def LawOk (c : Con) (g : Nat) (ks : List AK) : Prop := ∀ vs h, shapes ks g vs h → ∃ l, c.paths vs h = some l ∧ ∀ r ∈ l, holdsP r.need ∧ r.v = .val (.one (.bool (.lit true)))
theorem law_calls {P : Program} {G : List (Nat × List L)} {c : Con} (hc : c.ok P G) {ks : List AK} (hlaw : LawOk c G.length ks) {ts : List TypeId} (hk : aksOf P ts = some ks) {H : Type} {enc : TypeId × Value → H} {r : Reach} {base b2 : Nat} {sp : Nat → Bool} {held : Bool} {W : World}
    {xs : List Value} {ds : List (DataW H)} {ps : List MemPlace} (hv : ∀ (j : Nat) t v, ts[j]? = some t → xs[j]? = some v → Value.okWide P W r base t v) (hA : DataW.TrodAll enc P W b2 sp held ts xs ds ps) (hsz : (DataW.weightsEach P ts ds).all (· ≤ reachBytes) = true)
    (hglob : ∀ (i : Nat) (g : Nat × List L), G[i]? = some g → g.1 < W.heap.size ∧ segsOk (fun _ => none) W g.1 0 [.cells g.2]) : Calls P c.f xs.toArray W fun e w' => e = .returned (.bool true) ∧ Below W.heap.size W w' := by
  obtain ⟨vs, h, pl, A⟩ := args_ok hk G.length xs ds ps hv hA hsz
  obtain ⟨l, h1, h2⟩ := hlaw vs h A.sh
  obtain ⟨rr, hr, _, hrun⟩ := hc vs h l h1
  obtain ⟨hneed, hval⟩ := h2 rr hr
  let β : Bm := fun i => if i < G.length then (G[i]?).map (fun g => .blk g.1) else pl[i - G.length]?
  have hβg : ∀ (i : Nat) (g : Nat × List L), G[i]? = some g → β i = some (.blk g.1) := fun i g hg => by
    show (if i < G.length then _ else _) = _
    rw [if_pos (List.getElem?_eq_some_iff.1 hg).1, hg]; rfl
  have hβp : ∀ i p, pl[i]? = some p → β (G.length + i) = some p := fun i p hp => by
    show (if G.length + i < G.length then _ else _) = _
    rw [if_neg (by omega), Nat.add_sub_cancel_left]; exact hp
  have hgl : (gm G).length = G.length := by simp [gm]
  have hmem : ∀ id o, (gm G ++ h)[id]? = some o → o.own = false ∧ ∃ p, β id = some p ∧ o.ok β W p := fun id o ho => by
    rcases Nat.lt_or_ge id G.length with hl | hl
    · rw [List.getElem?_append_left (by rw [hgl]; exact hl)] at ho
      simp only [gm, List.getElem?_map] at ho
      cases hg : G[id]? with
      | none => rw [hg] at ho; cases ho
      | some g =>
        rw [hg] at ho; cases ho
        obtain ⟨k1, k2⟩ := hglob id g hg
        exact ⟨rfl, _, hβg id g hg, k1, segsOk_same (fun _ _ h => by cases h) rfl k2, fun h => by cases h⟩
    · rw [List.getElem?_append_right (by rw [hgl]; exact hl), hgl] at ho
      have hlt : id - G.length < pl.length := by rw [A.len]; exact (List.getElem?_eq_some_iff.1 ho).1
      refine ⟨A.own o (List.mem_of_getElem? ho), pl[id - G.length], ?_, A.ok β _ o _ ho (List.getElem?_eq_getElem hlt)⟩
      have := hβp _ _ (List.getElem?_eq_getElem hlt)
      rwa [show G.length + (id - G.length) = id by omega] at this
  have hH : HeapOk β (gm G ++ h) W := by
    refine ⟨fun id o ho => (hmem id o ho).2, fun id p hp => ?_, fun i i' o o' p p' b hi hi' how => ?_⟩
    · have hp2 : (if id < G.length then (G[id]?).map (fun g => Pl.blk g.1) else pl[id - G.length]?) = some p := hp
      split at hp2
      · exact ⟨_, List.getElem?_eq_getElem (by simp [hgl]; omega)⟩
      · have := (List.getElem?_eq_some_iff.1 hp2).1
        exact ⟨_, List.getElem?_eq_getElem (by simp [hgl, ← A.len]; omega)⟩
    · rw [(hmem i o hi).1] at how; cases how
  have hG : GlobOk G β W := fun i g hg => ⟨hβg i g hg, hglob i g hg⟩
  refine (hrun hneed β xs W hH hG (A.rel β hβp)).mono ?_
  rintro e w' ⟨v, β', rfl, _, _, _, hv', hC⟩
  rw [hval] at hv'
  have : v = .bool true := hv'
  subst this
  refine ⟨rfl, hC.os, hC.tape, hC.output, hC.size, fun k hk => hC.block k hk ?_⟩
  rintro ⟨i, o, p, q1, q2, _⟩
  rw [(hmem i o q1).1] at q2; cases q2

/-! ### the answer -/
theorem trodAll_stays {H : Type} {enc : TypeId × Value → H} {P : Program} (hl : laidOutB P = true) {W W' : World} (hb : Below W.heap.size W W') {sp : Nat → Bool} :
    ∀ {ts : List TypeId} {vs : List Value} {ds : List (DataW H)} {ps : List MemPlace}, (ts.all fun t => P.readableRec t && decide (t < P.types.size)) = true → DataW.TrodAll enc P W 0 (fun _ => true) true ts vs ds ps →
      (∀ p ∈ ps, p.block < W.heap.size) → (∀ p ∈ ps, sp p.block = true) → DataW.TrodAll enc P W' 0 sp true ts vs ds ps
  | [], [], [], _, _, h, _, _ => h
  | [], [], _ :: _, _, _, h, _, _ => h.elim
  | [], _ :: _, _, _, _, h, _, _ => h.elim
  | _ :: _, [], _, _, _, h, _, _ => h.elim
  | _ :: _, _ :: _, [], _, _, h, _, _ => h.elim
  | t :: ts, v :: vs, d :: ds, ps, ht, h, hlt, hs => by
    obtain ⟨p, q, h1, h2, rfl⟩ := h
    simp only [List.all_cons, Bool.and_eq_true, decide_eq_true_eq] at ht
    exact ⟨p, q, WideElems.Trod_stays hl ht.1.1 ht.1.2 h1 (fun x hx => hb.same (hlt x (by simp [hx]))) (fun x hx => hs x (by simp [hx])),
      trodAll_stays hl hb ht.2 h2 (fun x hx => hlt x (by simp [hx])) (fun x hx => hs x (by simp [hx])), rfl⟩

/-- the answer is true, nothing old has turned -/
theorem post_true {H : Type} {enc : TypeId × Value → H} {P : Program} {f : Func} {s : ChangeSpec} {apart fresh handsOn again : Bool} (hl : laidOutB P = true) (hvars : s.vars = [])
    (hts : (f.params.toList.all fun t => P.readableRec t && decide (t < P.types.size)) = true) {tb : TypeId} (hrt : f.resultTypes = #[tb]) (hb : P.underlying tb = some .bool)
    {W W' : World} {args : Array Value} {ds gs : List (DataW H)} {before : List MemPlace} (hW : DataW.Whole enc P f.params.toList s.vars apart W args.toList ds gs before)
    (hfn : s.fn H (ds ++ gs) = { results := [.lit (.bool true)], args := ds }) (hbe : Below W.heap.size W W') : s.post enc P f apart fresh handsOn again W args (.bool true) W' := by
  have hW' := hW
  obtain ⟨p, q, hA, hV, rfl, hfz, hnd⟩ := hW
  rw [hvars] at hV
  obtain ⟨rfl, rfl⟩ := trodVars_none hV
  have hlt : ∀ x ∈ p, x.block < W.heap.size := fun x hx => by simpa using hW'.lt x (by simpa using hx)
  have hold : ∀ x ∈ p ++ [], (fun b => decide (b < W.heap.size)) x.block = true := fun x hx => by simpa using hW'.lt x hx
  have hres : ∀ (b : Nat) (sp : Nat → Bool) (hd : Bool), DataW.TrodAll enc P W' b sp hd f.resultTypes.toList ((Value.bool true).resultList f.resultTypes.size) (s.fn H (ds ++ [])).results [] := by
    intro b sp hd
    rw [hfn, hrt]
    exact trodAll_mk1 (shut_bool hb _)
  have hargs : ∀ sp : Nat → Bool, (∀ x ∈ p ++ [], sp x.block = true) → DataW.TrodAll enc P W' 0 sp true f.params.toList args.toList (s.fn H (ds ++ [])).args p := by
    intro sp hsp
    rw [hfn]
    exact trodAll_stays hl hbe hts hA hlt (fun x hx => hsp x (by simpa using hx))
  have hvar : ∀ sp : Nat → Bool, DataW.TrodVars enc P W' sp s.vars (s.fn H (ds ++ [])).vars [] := by
    intro sp
    rw [hfn, hvars]
    rfl
  refine ⟨ds, [], p ++ [], [], p, [], hW', hres _ _ _, hargs _ hold, hvar _, World.keptBut_mono (fun x hx => ⟨hx, ?_⟩) (hbe.frame (· ∈ p ++ [])), fun _ => ?_⟩
  · exact Or.inr (by simpa using hx)
  · refine ⟨ok_one hrt rfl (okWide_bool_mk hb _), [.lit (.bool true)] ++ ds, [], ([] ++ p) ++ [], ⟨[] ++ p, [], ?_, (by rw [hvars]; exact rfl), rfl, ?_, ?_⟩, ?_⟩
    · have h := trodAll_append (hargs (fun _ => true) (fun _ _ => rfl)) (hres 0 (fun _ => true) true)
      rw [hfn] at h
      exact h
    · intro b off hp
      have hx : MemPlace.cell b off ∈ p ++ [] := by simpa using hp
      rw [hbe.frozen (p := ⟨b, off, none⟩) (show b < W.heap.size from (hW'.lt _ hx : (MemPlace.cell b off).block < _))]
      exact hfz b off hx
    · intro ha
      simpa using hnd ha
    · intro x hx _
      simpa using hx

theorem trodAll_len {H : Type} {enc : TypeId × Value → H} {P : Program} {W : World} {base : Nat} {sp : Nat → Bool} {held : Bool} :
    ∀ {ts : List TypeId} {vs : List Value} {ds : List (DataW H)} {ps : List MemPlace}, DataW.TrodAll enc P W base sp held ts vs ds ps → vs.length = ts.length ∧ ds.length = ts.length
  | [], [], [], _, _ => ⟨rfl, rfl⟩
  | [], [], _ :: _, _, h => h.elim
  | [], _ :: _, _, _, h => h.elim
  | _ :: _, [], _, _, h => h.elim
  | _ :: _, _ :: _, [], _, h => h.elim
  | _ :: _, _ :: _, _ :: _, _, ⟨_, _, _, h, _⟩ => by simp [trodAll_len h]

/-- a whole row's contract -/
theorem row_true {H : Type} {enc : TypeId × Value → H} {P : Program} {G : List (Nat × List L)} {c : Con} {fn : Func} {s : ChangeSpec} {ts : List TypeId} {ks : List AK} {tb : TypeId}
    (hc : c.ok P G) (hlaw : LawOk c G.length ks) (hk : aksOf P ts = some ks)
    (hpar : fn.params.toList = ts) (hl : laidOutB P = true) (hvars : s.vars = []) (hts : (ts.all fun t => P.readableRec t && decide (t < P.types.size)) = true)
    (hrt : fn.resultTypes = #[tb]) (hb : P.underlying tb = some .bool) (hfn : ∀ ds : List (DataW H), ds.length = ts.length → s.fn H ds = { results := [.lit (.bool true)], args := ds })
    {apart fresh handsOn again : Bool} {W : World} {base : Nat} {args : Array Value} {ds gs : List (DataW H)} {before : List MemPlace}
    (hval : ∀ (j : Nat) t v, fn.params[j]? = some t → args[j]? = some v → Value.okWide P W .any base t v) (hW : DataW.Whole enc P fn.params.toList s.vars apart W args.toList ds gs before)
    (hsz : (DataW.weightsEach P (fn.params.toList ++ s.plain.varTypes P) (ds ++ gs)).all (· ≤ reachBytes) = true)
    (hglob : ∀ (i : Nat) (g : Nat × List L), G[i]? = some g → g.1 < W.heap.size ∧ segsOk (fun _ => none) W g.1 0 [.cells g.2]) :
    Calls P c.f args W fun e W' => ∃ v, e = .returned v ∧ s.post enc P fn apart fresh handsOn again W args v W' := by
  have hW' := hW
  obtain ⟨p, q, hA, hV, rfl, hfz, hnd⟩ := hW
  rw [hvars] at hV
  obtain ⟨rfl, rfl⟩ := trodVars_none hV
  have hlen := trodAll_len hA
  have hsz2 : (DataW.weightsEach P ts ds).all (· ≤ reachBytes) = true := by
    have e : s.plain.varTypes P = [] := by unfold DataSpec.varTypes ChangeSpec.plain; rw [hvars]; rfl
    rw [e, List.append_nil, List.append_nil, hpar] at hsz
    exact hsz
  refine Calls.mono (law_calls hc hlaw hk (r := .any) (base := base) (xs := args.toList) (fun j t v h1 h2 => hval j t v (by rw [← hpar] at h1; simpa using h1) (by simpa using h2)) (by rw [← hpar]; exact hA) hsz2 hglob) ?_
  rintro e W' ⟨rfl, hbe⟩
  exact ⟨_, rfl, post_true hl hvars (by rw [hpar]; exact hts) hrt hb hW' (by rw [List.append_nil]; exact hfn ds (by rw [hlen.2, hpar])) hbe⟩
end Go.Proofs.YtcecdpebapkfaaaHy
namespace Go.Proofs.YtcecdpebapkfaaaHy
open Go Go.RowKit Go.Sort

def sortL (n : Nat) (g : Nat → Int) : List Int := ((List.range n).map g).mergeSort fun x y => decide (x ≤ y)
theorem sortL_len (n : Nat) (g : Nat → Int) : (sortL n g).length = n := by simp [sortL]
def sortCon (f : FuncId) (k : Nat) (e : TypeId) : Con := ⟨f, fun args h => match args, h with
  | [.val (.one (.vec i))], [.vec true e' n [.ints .i64 g]] => if Nat.beq i k && Nat.beq e e' then some [⟨none, some (n < 4611686018427387904), .tup [], [.vec true e n [.ints .i64 fun i => (sortL n g).getD i 0]]⟩] else none
  | _, _ => none, false⟩
theorem sortCon_ok {P : Program} {G : List (Nat × List L)} {f : FuncId} {e : TypeId} (h0 : ∀ (p : Option Addr) (cap : Nat) (w : World), Calls P f #[.slice p 0 cap] w fun e w' => e = .returned (.tuple #[]) ∧ w' = w)
    (h1 : ∀ (blk off cap : Nat) (zs : List Int) (w : World), Holds (Value.int .i64) w blk off zs.toArray → blk < w.heap.size → zs.length < 4611686018427387904 →
      Calls P f #[.slice (some ⟨blk, off, none⟩) zs.length cap] w fun e w' => e = .returned (.tuple #[]) ∧ ∃ n os, w' = grow (putRow (Value.int .i64) (Sort.ahead w n) blk off (zs.mergeSort fun x y => decide (x ≤ y)).toArray) os) : (sortCon f G.length e).ok P G := by
  intro args h l hl
  unfold sortCon at hl
  simp only at hl
  split at hl
  · rename_i i e' n g
    split at hl
    · rename_i hc
      simp only [Bool.and_eq_true] at hc
      have := Nat.eq_of_beq_eq_true hc.1
      subst this
      have := Nat.eq_of_beq_eq_true hc.2
      subst this
      cases hl
      refine ⟨_, List.mem_singleton.2 rfl, trivial, fun hn β xs w hH hg hx => ?_⟩
      have hn : n < 4611686018427387904 := hn
      have hgl : (gm G).length = G.length := by simp [gm]
      match xs, hx with
      | [x], ⟨⟨hx1, hx2⟩, _⟩ =>
      obtain ⟨p, k1, k2⟩ := hH.mem G.length (.vec true e n [.ints .i64 g]) (by rw [List.getElem?_append_right (by omega)]; simp [hgl])
      rw [hx1] at k1; cases k1
      have hat : (gm G ++ [Ob.vec true e n [.ints .i64 g]])[G.length]? = some (.vec true e n [.ints .i64 g]) := by rw [List.getElem?_append_right (by omega)]; simp [hgl]
      have hfin : ∀ w', w.grownBy w' x.ownBlock → (Ob.vec true e n [.ints .i64 fun i => (sortL n g).getD i 0]).ok β w' (.val x) → CallPost G β (gm G ++ [.vec true e n [.ints .i64 g]]) w ⟨none, some (n < 4611686018427387904), .tup [], [.vec true e n [.ints .i64 fun i => (sortL n g).getD i 0]]⟩ (.returned (.tuple #[])) w' := by
        intro w' hgr hok
        have hown : ∀ b, (Pl.val x).foot = some b → owned β (gm G ++ [.vec true e n [.ints .i64 g]]) b := fun b hb => ⟨G.length, .vec true e n [.ints .i64 g], .val x, hat, rfl, hx1, hb⟩
        have hidx : ∀ (id : Nat) (o : Ob), (gm G ++ [Ob.vec true e n [.ints .i64 fun i => (sortL n g).getD i 0]])[id]? = some o → (id < G.length ∧ (gm G ++ [Ob.vec true e n [.ints .i64 g]])[id]? = some o ∧ o.own = false ∧ o ≠ .gone) ∨ (id = G.length ∧ o = .vec true e n [.ints .i64 fun i => (sortL n g).getD i 0]) := by
          intro id o ho
          rcases Nat.lt_or_ge id G.length with hlt | hge
          · rw [List.getElem?_append_left (by omega)] at ho
            refine .inl ⟨hlt, by rw [List.getElem?_append_left (by omega)]; exact ho, ?_⟩
            simp only [gm, List.getElem?_map] at ho
            cases hg0 : G[id]? with
            | none => rw [hg0] at ho; cases ho
            | some q => rw [hg0] at ho; cases ho; exact ⟨rfl, fun e => by cases e⟩
          · rw [List.getElem?_append_right (by omega), hgl] at ho
            have : id - G.length = 0 := by
              have := (List.getElem?_eq_some_iff.1 ho).1
              simp at this; omega
            rw [this] at ho
            simp at ho
            exact .inr ⟨by omega, ho.symm⟩
        refine ⟨_, β, rfl, Bm.le_refl β, ⟨fun id o ho => ?_, fun id q hq => ?_, fun i i' o o' q q' b ho ho' how hng hq hq' hf hf' => ?_⟩, fun i o q ho how hq b hb => ?_, ⟨#[], rfl, trivial⟩, ?_⟩
        · rcases hidx id o ho with ⟨hlt, ho2, how, hgn⟩ | ⟨rfl, rfl⟩
          · obtain ⟨q, q1, q2⟩ := hH.mem id o ho2
            refine ⟨q, q1, Ob.ok_same (Bm.le_refl β) hgr.size q2 fun b hb => hgr.block b ?_ fun e2 => ?_⟩
            · exact Ob.foot_lt q2 hgn b hb
            · have := hH.inj G.length id _ o (.val x) q b hat ho2 rfl hgn hx1 q1 (by rw [foot_own]; exact e2.symm) hb
              omega
          · exact ⟨_, hx1, hok⟩
        · obtain ⟨o, ho⟩ := hH.dom id q hq
          have hlt := (List.getElem?_eq_some_iff.1 ho).1
          exact ⟨_, List.getElem?_eq_getElem (by simp at hlt ⊢; omega)⟩
        · rcases hidx i o ho with ⟨h1, _, h3, _⟩ | ⟨rfl, rfl⟩
          · rw [h3] at how; cases how
          · rcases hidx i' o' ho' with ⟨h1, h2, h3, _⟩ | ⟨rfl, rfl⟩
            · exact hH.inj G.length i' _ o' q q' b hat h2 rfl hng hq hq' hf hf'
            · rfl
        · rcases hidx i o ho with ⟨h1, _, h3, _⟩ | ⟨rfl, rfl⟩
          · rw [h3] at how; cases how
          · rw [hx1] at hq; cases hq
            exact .inr (hown b hb)
        · refine ⟨hgr.os, hgr.tape, hgr.output, hgr.size, Nat.le_refl _, fun k hk hF => hgr.block k hk fun e2 => hF (hown k ?_)⟩
          rw [foot_own]; exact e2.symm
      have hnil : n = 0 → Calls P f #[x] w (CallPost G β (gm G ++ [.vec true e n [.ints .i64 g]]) w ⟨none, some (n < 4611686018427387904), .tup [], [.vec true e n [.ints .i64 fun i => (sortL n g).getD i 0]]⟩) := by
        intro h00
        subst h00
        obtain ⟨a, c, hxs⟩ := vec_shape k2
        subst hxs
        refine (h0 a c w).mono ?_
        rintro e2 w' ⟨rfl, rfl⟩
        refine hfin w' ⟨rfl, rfl, rfl, Nat.le_refl _, fun _ _ _ => rfl⟩ ?_
        obtain ⟨r0, r1⟩ := k2
        refine ⟨r0, ?_⟩
        rcases r1 with r1 | ⟨b, off, cap, r1, r2, r3, r4, r5⟩
        · exact .inl r1
        · exact .inr ⟨b, off, cap, r1, r2, r3, fun i hi => absurd hi (Nat.not_lt_zero i), r5⟩
      show Calls P f #[x] w _
      by_cases h00 : n = 0
      · exact hnil h00
      · obtain ⟨r0, r1⟩ := k2
        rcases r1 with ⟨c, _, h, _⟩ | ⟨b, off, cap, rfl, r2, r3, r4, r5⟩
        · exact absurd h h00
        · obtain ⟨rfl, r6, cs, r7, r8⟩ := r5 rfl
          have r8 : cs.size = cap * 1 := r8
          have hzl : ((List.range n).map g).length = n := by simp
          have ht : cs.toList.take ((List.range n).map g).length = ((List.range n).map g).map (Value.int .i64) := by
            apply List.ext_getElem?
            intro j
            rw [hzl]
            by_cases hj : j < n
            · obtain ⟨y, y1, y2⟩ := r4 j hj 0 _ rfl
              have y2 : y = .int .i64 (g j) := y2
              simp only [List.length_cons, List.length_nil, Nat.zero_add, Nat.mul_one, Nat.add_zero, World.cell?, r7] at y1
              rw [List.getElem?_take_of_lt hj, Array.getElem?_toList]
              simp only [Option.isSome_none, Bool.false_eq_true, if_false] at y1
              rw [y1, y2]
              simp [hj]
            · rw [List.getElem?_take_eq_none (by omega), List.getElem?_eq_none (by simp; omega)]
          have hcall := h1 b 0 cap ((List.range n).map g) w (holds_of_blockI r7 ht) r2 (by rw [hzl]; exact hn)
          rw [hzl] at hcall
          refine hcall.mono ?_
          rintro e2 w' ⟨rfl, m, os, rfl⟩
          refine hfin _ (grownBy_sortedI _) ?_
          have hO := ownsRow_sortedI (n := m) (os := os) (base := 0) (ss := (List.range n).map g) (ts := sortL n g) (by simp [sortL]) (Nat.zero_le _) r7 (by rw [hzl]; exact r3) (by simpa [maxLen] using r6) r8
          rw [hzl] at hO
          refine owns_vec hO r0 (fun j hj q c hc => ?_)
          have hq : q = 0 := by
            have := (List.getElem?_eq_some_iff.1 hc).1
            simp at this; exact this
          subst hq
          cases hc
          refine ⟨.int .i64 ((sortL n g).getD j 0), ?_, rfl⟩
          have hjl : j < (sortL n g).length := by rw [sortL_len]; exact hj
          simp [List.getD_eq_getElem?_getD, List.getElem?_eq_getElem hjl]
    · cases hl
  · cases hl
end Go.Proofs.YtcecdpebapkfaaaHy
