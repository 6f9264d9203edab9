/- The heap engine, second part: the ways of operations, regions, conditions of a text from its states. It is about no program. -/
import Derived.Test.YtcecdpebapkfaaaHyOne
import Derived.Deep.DeepAppendWide
import Derived.Maps.RangeRun
namespace Go.Proofs.YtcecdpebapkfaaaHy
open Go Go.RowKit
section
variable {P : Program}

/-- append to a list of one's own: and where the end stands -/
theorem run_append_place {w : World} (t ty e : TypeId) (i : TypeInfo) (z : Value) (ht : P.underlying t = some (.slice e)) (hi : P.info? e = some i) (hz : i.zero = some z) (hzs : z.cells.size = i.size) (hsz : 0 < i.size)
    (v : Value) (n : Nat) (xs : List Value) (hown : w.ownsRow 0 e i.size v n xs)
    (a : Addr) (m c : Nat) (news : List Value) (hl : news.length = m * i.size) (hnews : ∀ j u, news[j]? = some u → w.cell? (a.add j) = some u) (h1 : ∀ u ∈ news, u.oneCell' = true)
    (h63 : n + m ≤ maxLen) (hbytes : ((n + m) + (n + m) / 4 + 192) * i.bytes ≤ 281474976710656) :
    ∃ v' w', (Builtin.append_ #[t, t] ty #[v, .slice (some a) m c]).run P w = .ok v' w' ∧ w'.ownsRow 0 e i.size v' (n + m) (xs ++ news) ∧ w.grownBy w' v.ownBlock ∧ ∀ b, v'.ownBlock = some b → v.ownBlock = some b ∨ w.heap.size ≤ b := by
  obtain ⟨v', w', r1, r2, r3, _⟩ := run_append_own_wide (P := P) w 0 t ty e i z i.size i.bytes ht hi hz rfl rfl hzs hsz v n xs hown a m c news hl hnews h1 h63 hbytes (Nat.zero_le _)
  refine ⟨v', w', r1, r2, r3, fun b hb => ?_⟩
  have hown0 := hown
  rcases hown.2 with ⟨rfl, rfl⟩ | ⟨g, cap, cur, rfl, hbg, hg, hnc, hcm, hcs, htake⟩
  · obtain ⟨v2, w2, q1, q2, _⟩ := run_append_own_wide (P := P) w w.heap.size t ty e i z i.size i.bytes ht hi hz rfl rfl hzs hsz (.slice none 0 0) 0 xs ⟨hown.1, .inl ⟨rfl, rfl⟩⟩ a m c news hl hnews h1 h63 hbytes (Nat.le_refl _)
    rw [r1] at q1
    cases q1
    exact .inr (q2.lt b hb).1
  · by_cases hroom : n + m ≤ cap
    · obtain ⟨w2, q1, _⟩ := run_append_fits (P := P) (w := w) 0 t ty e i i.size ht hi rfl g n cap xs hown a m c news hl hnews h1 hroom
      rw [r1] at q1
      cases q1
      exact .inl hb
    · have holds : ∀ j u, xs[j]? = some u → w.cell? ((⟨g, 0, none⟩ : Addr).add j) = some u := hown.cells (g := g) rfl
      have hr := run_append_grow (P := P) w t ty e i z ht hi hz ⟨g, 0, none⟩ n cap xs hown.1 holds a m c news hl hnews (by omega) (by simp only [maxLen] at h63; omega) (growslice_fits_wide (by omega) hbytes)
      rw [r1] at hr
      cases hr
      cases hb
      exact .inr (Nat.le_refl _)

def Col.plain : Col → Bool
  | .vals _ => false
  | _ => true
theorem Col.plain_ok {c : Col} (h : c.plain = true) {i : Nat} {x : Value} (hr : c.rel i x) : x.oneCell' = true := by
  cases c with
  | ints k g => cases hr; rfl
  | bools g => cases hr; rfl
  | vals g => cases h
/-- the cells of a row, one after the other -/
theorem row_list {w : World} {b off m : Nat} {cols : List Col} (h : rowOk w b off m cols) (hp : cols.all Col.plain = true) (hpos : 0 < cols.length) :
    ∃ news : List Value, news.length = m * cols.length ∧ (∀ j u, news[j]? = some u → w.cell? ⟨b, off + j, none⟩ = some u) ∧ (∀ u ∈ news, u.oneCell' = true) ∧
      ∀ i, i < m → ∀ (j : Nat) (c : Col), cols[j]? = some c → ∃ y, news[i * cols.length + j]? = some y ∧ c.rel i y := by
  have cell : ∀ q, q < m * cols.length → ∃ u, w.cell? ⟨b, off + q, none⟩ = some u ∧ ∃ c, cols[q % cols.length]? = some c ∧ c.rel (q / cols.length) u := by
    intro q hq
    obtain ⟨hdiv, _⟩ := mulDiv hq
    have hmod := Nat.mod_lt q hpos
    obtain ⟨x, k1, k2⟩ := h _ hdiv _ _ (List.getElem?_eq_getElem hmod)
    have hdm : q / cols.length * cols.length + q % cols.length = q := by
      have := Nat.div_add_mod q cols.length
      rw [Nat.mul_comm] at this; exact this
    exact ⟨x, by rw [← hdm, ← Nat.add_assoc]; exact k1, _, List.getElem?_eq_getElem hmod, k2⟩
  have get : ∀ q, ((List.range (m * cols.length)).map fun q => (w.cell? ⟨b, off + q, none⟩).getD undef)[q]? = if q < m * cols.length then some ((w.cell? ⟨b, off + q, none⟩).getD undef) else none := by
    intro q
    rw [List.getElem?_map]
    by_cases hq : q < m * cols.length
    · rw [List.getElem?_range hq, if_pos hq]; rfl
    · rw [List.getElem?_eq_none (by simpa using hq), if_neg hq]; rfl
  refine ⟨(List.range (m * cols.length)).map fun q => (w.cell? ⟨b, off + q, none⟩).getD undef, by simp, fun j u hu => ?_, fun u hu => ?_, fun i hi j c hc => ?_⟩
  · rw [get] at hu
    split at hu
    · rename_i hq
      obtain ⟨x, hx, _⟩ := cell j hq
      rw [hx] at hu ⊢
      exact hu
    · cases hu
  · obtain ⟨q, hq, rfl⟩ := List.mem_map.1 hu
    obtain ⟨x, hx, c, hc, hr⟩ := cell q (by simpa using hq)
    rw [hx]
    exact Col.plain_ok (List.all_eq_true.1 hp c (List.mem_of_getElem? hc)) hr
  · have hjl : j < cols.length := (List.getElem?_eq_some_iff.1 hc).1
    have hb : i * cols.length + j < m * cols.length := by
      have : (i + 1) * cols.length ≤ m * cols.length := Nat.mul_le_mul_right _ hi
      rw [Nat.succ_mul] at this; omega
    obtain ⟨x, k1, k2⟩ := h i hi j c hc
    refine ⟨x, ?_, k2⟩
    rw [get, if_pos hb, ← Nat.add_assoc, k1]; rfl

/-- what the types of an append say -/
structure AppTy (P : Program) (t e : TypeId) (stride bytes : Nat) : Prop where
  sl : P.underlying t = some (.slice e)
  info : ∃ i z, P.info? e = some i ∧ i.zero = some z ∧ z.cells.size = stride ∧ i.size = stride ∧ i.bytes = bytes
  pos : 0 < stride
def appTy (P : Program) (t : TypeId) : Option (TypeId × Nat × Nat) :=
  match P.underlying t with
  | some (.slice e) => match P.info? e with
    | some i => match i.zero with
      | some z => if Nat.beq z.cells.size i.size && Nat.blt 0 i.size && Nat.blt 0 i.bytes then some (e, i.size, i.bytes) else none
      | none => none
    | none => none
  | _ => none
theorem appTy_ok {t e : TypeId} {stride bytes : Nat} (h : appTy P t = some (e, stride, bytes)) : AppTy P t e stride bytes ∧ 0 < bytes := by
  unfold appTy at h
  split at h
  · rename_i e' ht
    split at h
    · rename_i i hi
      split at h
      · rename_i z hz
        split at h
        · rename_i hc
          simp only [Bool.and_eq_true] at hc
          cases h
          exact ⟨⟨ht, ⟨i, z, hi, hz, Nat.eq_of_beq_eq_true hc.1.1, rfl, rfl⟩, by simpa using hc.1.2⟩, by simpa using hc.2⟩
        · cases h
      · cases h
    · cases h
  · cases h

theorem foot_own (v : Value) : (Pl.val v).foot = v.ownBlock := by
  cases v <;> first | rfl | skip
  rename_i a n c
  cases a <;> rfl

/-- the step itself: a list of one's own (or nil) grows by another one -/
theorem append_step {X : Cx} {D : Dx} {β : Bm} {s2 : S} {a : Act} {w : World} {t ty e : TypeId} {stride bytes : Nat} (hT : AppTy P t e stride bytes) {fresh : Nat} {own2 : Bool} {e2 : TypeId} {n m : Nat} {cols cols2 cols' : List Col} {x1 x2 : Value}
    (hC : Chg D w) (hB : RepB X D β s2 a w) (hcl : cols.length = stride) (happ : appCols n cols cols2 = some cols') (hpl : cols2.all Col.plain = true)
    (hx1 : (Ob.vec true e n cols).ok β w (.val x1)) (hmay : D.may (.val x1)) (hfr : s2.blk fresh = none)
    (hno : ∀ i q p b, s2.blk i = some q → q ≠ .gone → β i = some p → p.foot = some b → (Pl.val x1).foot ≠ some b) (hne : (Ob.vec own2 e2 m cols2).ok β w (.val x2)) (hbytes : ((n + m) + (n + m) / 4 + 192) * bytes ≤ 281474976710656) (hbp : 0 < bytes) :
    ∃ v' w' β', (Builtin.append_ #[t, t] ty #[x1, x2]).run P w = .ok v' w' ∧ Chg D w' ∧ β.le β' ∧ β' fresh = some (.val v') ∧ (∃ q r u, v' = .slice q r u) ∧ RepB X D β' ⟨s2.tmp, upd s2.blk (look [(fresh, some (.vec true e (n + m) cols'))])⟩ a w' := by
  obtain ⟨ht, ⟨i, z, hi, hz, hzs, hisz, hib⟩, hpos⟩ := hT
  obtain ⟨c1, c2, c3⟩ := appCols_ok happ
  obtain ⟨xs, hown, hxs⟩ := vec_owns hx1
  have hbase := Nat.le_trans hC.base hC.size
  have h63 : n + m ≤ 9223372036854775807 := by
    have : ((n + m) + (n + m) / 4 + 192) * 1 ≤ ((n + m) + (n + m) / 4 + 192) * bytes := Nat.mul_le_mul_left _ hbp
    omega
  -- the run
  have run : ∃ v' w' news, (Builtin.append_ #[t, t] ty #[x1, x2]).run P w = .ok v' w' ∧ w'.ownsRow 0 e stride v' (n + m) (xs ++ news) ∧ w.grownBy w' x1.ownBlock ∧ (∀ b, v'.ownBlock = some b → x1.ownBlock = some b ∨ w.heap.size ≤ b) ∧
      news.length = m * stride ∧ ∀ j, j < m → ∀ (q : Nat) (c : Col), cols2[q]? = some c → ∃ y, news[j * stride + q]? = some y ∧ c.rel j y := by
    obtain ⟨_, h2⟩ := hne
    rw [hcl] at hown
    rcases h2 with ⟨c, rfl, rfl, _⟩ | ⟨b, off, cap, rfl, k1, k2, k3, _⟩
    · have hn : x1 = x1 := rfl
      refine ⟨x1, w, [], ?_, by simpa using hown, ⟨rfl, rfl, rfl, Nat.le_refl _, fun _ _ _ => rfl⟩, fun b hb => .inl hb, by simp, fun j hj => absurd hj (Nat.not_lt_zero j)⟩
      rcases hown.2 with ⟨rfl, rfl⟩ | ⟨g, cap, cur, rfl, _, _, hnc, _⟩
      · simp [Builtin.append_, run_underlying ht, sizeOf, typeInfo, hi, Builtin.lenOf, Builtin.firstCells]
      · simp [Builtin.append_, run_underlying ht, sizeOf, typeInfo, hi, Builtin.lenOf, Builtin.firstCells, hnc, storeCells]
    · obtain ⟨news, l1, l2, l3, l4⟩ := row_list k3 hpl (by omega)
      rw [← c1, hcl] at l1 l4
      subst hisz
      obtain ⟨v', w', r1, r2, r3, r4⟩ := run_append_place (P := P) (w := w) t ty e i z ht hi hz hzs hpos x1 n xs hown ⟨b, off, none⟩ m cap news l1 (fun j u hu => by rw [addr_add]; exact l2 j u hu) l3 (by simp only [maxLen]; omega) (by rw [hib]; exact hbytes)
      exact ⟨v', w', news, r1, r2, r3, r4, l1, l4⟩
  obtain ⟨v', w', news, r1, r2, r3, r4, r5, r6⟩ := run
  have hB2 : RepB X D β s2 a w' := hB.laterBut hbase r3.size x1.ownBlock r3.block (fun i q p b hq hg hp hf e2 => hno i q p b hq hg hp hf (by rw [foot_own]; exact e2.symm)) (fun b hb => hmay b (by rw [foot_own]; exact hb))
  have hxl : xs.length = n * stride := by rw [← hcl]; exact hown.1
  have hok : ∀ β', (Ob.vec true e (n + m) cols').ok β' w' (.val v') := by
    intro β'
    have hcl' : cols'.length = stride := by omega
    refine owns_vec (by rw [hcl']; exact r2) h63 (fun j hj q c hc => ?_)
    obtain ⟨c0, d, d1, d2, d3⟩ := c3 q c hc
    have hql : q < stride := by rw [← hcl']; exact (List.getElem?_eq_some_iff.1 hc).1
    rw [hcl']
    by_cases hjn : j < n
    · obtain ⟨y, y1, y2⟩ := hxs j hjn q c0 d1
      rw [hcl] at y1
      have hlt : j * stride + q < xs.length := (List.getElem?_eq_some_iff.1 y1).1
      exact ⟨y, by rw [List.getElem?_append_left hlt]; exact y1, (Col.app_ok d3 j y).1 hjn y2⟩
    · obtain ⟨p, rfl⟩ : ∃ p, j = n + p := ⟨j - n, by omega⟩
      obtain ⟨y, y1, y2⟩ := r6 p (by omega) q d d2
      refine ⟨y, ?_, (Col.app_ok d3 (n + p) y).2 p rfl y2⟩
      have e1 : (n + p) * stride + q = xs.length + (p * stride + q) := by rw [Nat.add_mul, hxl]; omega
      rw [e1, List.getElem?_append_right (by omega), Nat.add_sub_cancel_left]; exact y1
  obtain ⟨hle, hB3⟩ := hB2.fresh hfr (o := .vec true e (n + m) cols') (p := .val v') (Nat.le_trans hbase r3.size) (fun b hb => by
    rw [foot_own] at hb
    rcases r4 b hb with h1 | h1
    · exact ⟨hmay b (by rw [foot_own]; exact h1), fun i q p hq hg hp hf => hno i q p b hq hg hp hf (by rw [foot_own]; exact h1)⟩
    · refine ⟨.inl (by omega), fun i q p hq hg hp hf => ?_⟩
      obtain ⟨p', a1, a2, _⟩ := hB.mem i q hq
      rw [hp] at a1; cases a1
      have := Ob.foot_lt a2 hg b hf
      omega) (hok _)
  have hC' : Chg D w' := hC.later r3.os r3.tape r3.output r3.size (fun k hk hF => r3.block k (by omega) fun e2 => by
    rcases hmay k (by rw [foot_own]; exact e2.symm) with h1 | h1
    · omega
    · exact hF h1)
  have hsh : ∃ q r u, v' = .slice q r u := by
    obtain ⟨q, u, hq⟩ := vec_shape (hok β)
    exact ⟨_, _, _, hq⟩
  exact ⟨v', w', _, r1, hC', hle, by simp, hsh, hB3⟩

theorem look_two {α : Type} (f : Nat → α) (i j : Nat) (u v : α) (h : i ≠ j) : upd f (look [(i, u), (j, v)]) = upd (upd f (look [(i, u)])) (look [(j, v)]) := by
  funext k
  simp only [upd, look]
  cases h1 : Nat.beq i k <;> cases h2 : Nat.beq j k
  · simp
  · simp
  · simp
  · exact absurd ((Nat.eq_of_beq_eq_true h1).trans (Nat.eq_of_beq_eq_true h2).symm) h
/-! ### parts of lists -/
def Col.shift (lo : Nat) : Col → Col
  | .ints k g => .ints k fun i => g (i + lo)
  | .bools g => .bools fun i => g (i + lo)
  | .vals g => .vals fun i => g (i + lo)
theorem Col.shift_rel {lo : Nat} {c : Col} {i : Nat} {x : Value} (h : c.rel (i + lo) x) : (c.shift lo).rel i x := by cases c <;> exact h
theorem Col.shift_plain {lo : Nat} {cols : List Col} (h : cols.all Col.plain = true) : (cols.map (Col.shift lo)).all Col.plain = true := by
  rw [List.all_map]
  refine List.all_eq_true.2 fun c hc => ?_
  have := List.all_eq_true.1 h c hc
  cases c <;> exact this
theorem sub_vec {β : Bm} {w : World} {own : Bool} {e : TypeId} {n : Nat} {cols : List Col} {id stride lo len : Nat} {x x0 : Value} (hst : stride = cols.length) (hx0 : β id = some (.val x0)) (hok : (Ob.vec own e n cols).ok β w (.val x0)) (hx : (L.sub id stride lo len).rel β x) :
    lo + len ≤ n ∧ (Ob.vec false e len (cols.map (Col.shift lo))).ok β w (.val x) := by
  obtain ⟨x1, h1, h2⟩ := hx
  rw [hx0] at h1; cases h1
  obtain ⟨k0, k1⟩ := hok
  rcases h2 with ⟨c0, c, rfl, rfl, rfl, rfl⟩ | ⟨a, o, n', c, o', c', rfl, rfl, q1, q2, q3⟩
  · exact ⟨Nat.zero_le _, Nat.zero_le _, .inl ⟨c, rfl, rfl, fun h => by cases h⟩⟩
  · rcases k1 with ⟨c1, h, _⟩ | ⟨b, off, cap, h, r1, r2, r3, _⟩
    · cases h
    · cases h
      refine ⟨q1, by omega, .inr ⟨a, o', c', rfl, r1, q2, fun i hi j cc hcc => ?_, fun h => by cases h⟩⟩
      rw [List.getElem?_map] at hcc
      cases hc0 : cols[j]? with
      | none => rw [hc0] at hcc; cases hcc
      | some c0 =>
        rw [hc0] at hcc; cases hcc
        obtain ⟨y, y1, y2⟩ := r3 (i + lo) (by omega) j c0 hc0
        refine ⟨y, ?_, Col.shift_rel y2⟩
        rw [List.length_map, q3 (by omega)]
        have : o + (i + lo) * cols.length + j = o + lo * stride + i * cols.length + j := by
          rw [hst, Nat.add_mul]; omega
        rw [← this]; exact y1
/-- what an append reads: a list, or a part of one -/
def srcOf (s : S) : L → Option (Nat × Nat × List Col)
  | .vec id => match s.blk id with
    | some (.vec _ _ n cols) => some (id, n, cols)
    | _ => none
  | .sub id stride lo len => match s.blk id with
    | some (.vec _ _ _ cols) => if Nat.beq stride cols.length then some (id, len, cols.map (Col.shift lo)) else none
    | _ => none
  | _ => none
theorem srcOf_ok {X : Cx} {D : Dx} {β : Bm} {s s2 : S} {a : Act} {w : World} (hB : RepB X D β s2 a w) {l : L} {id n : Nat} {cols : List Col} (h : srcOf s l = some (id, n, cols)) (hs : s2.blk id = s.blk id) {x : Value} (hx : l.rel β x) :
    ∃ e, (Ob.vec false e n cols).ok β w (.val x) := by
  unfold srcOf at h
  split at h
  · split at h
    · rename_i own e n' cols' hb
      cases h
      obtain ⟨p, k1, k2, _⟩ := hB.mem id _ (by rw [hs, hb])
      obtain ⟨hx1, _⟩ := hx
      rw [hx1] at k1; cases k1
      refine ⟨e, k2.1, ?_⟩
      rcases k2.2 with ⟨c, h1, h2, _⟩ | ⟨b, off, cap, h1, h2, h3, h4, _⟩
      · exact .inl ⟨c, h1, h2, fun h => by cases h⟩
      · exact .inr ⟨b, off, cap, h1, h2, h3, h4, fun h => by cases h⟩
    · cases h
  · split at h
    · rename_i own e n' cols' hb
      split at h
      · rename_i hst
        cases h
        obtain ⟨p, k1, k2, _⟩ := hB.mem id _ (by rw [hs, hb])
        have hx' := hx
        obtain ⟨x0, q1, _⟩ := hx'
        rw [q1] at k1; cases k1
        exact ⟨e, (sub_vec (Nat.eq_of_beq_eq_true hst) q1 k2 hx).2⟩
      · cases h
    · cases h
  · cases h
/-- a bound of a part: left out, or a number -/
def boundIs (v : Option Value) (d l : Nat) : Prop := (v = none ∧ l = d) ∨ ∃ k : IntKind, v = some (.int k l)
theorem run_part {β : Bm} {w : World} {t el : TypeId} {n m id l h : Nat} {own : Bool} {ety : TypeId} {cols : List Col} (h1 : P.underlying t = some (.slice el)) (hn : tySize P el = some n) {x0 : Value} (hx : β id = some (.val x0)) (hok : (Ob.vec own ety m cols).ok β w (.val x0))
    {lo hi : Option Value} (hlo : boundIs lo 0 l) (hhi : boundIs hi m h) (hlh : l ≤ h) (hhm : h ≤ m) : ∃ y, (L.sub id n l (h - l)).rel β y ∧ (Instr.sliceAt t x0 lo hi none).run P w = .ok y w := by
  have hl : ∀ c, (match lo with | some v => Instr.sliceBound v h c | none => pure 0 : Sem Nat).run P w = .ok l w := by
    intro c
    rcases hlo with ⟨rfl, rfl⟩ | ⟨k, rfl⟩
    · rfl
    · have := run_sliceBound (P := P) (w := w) k (l : Int) h c (by omega) (by omega)
      simpa using this
  have hh : ∀ (cap : Nat), m ≤ cap → ∀ c, (match hi with | some v => Instr.sliceBound v cap c | none => pure m : Sem Nat).run P w = .ok h w := by
    intro cap hc c
    rcases hhi with ⟨rfl, rfl⟩ | ⟨k, rfl⟩
    · rfl
    · have := run_sliceBound (P := P) (w := w) k (h : Int) cap c (by omega) (by omega)
      simpa using this
  have hb : ∀ (cap : Nat), m ≤ cap → (Instr.sliceBounds true m cap lo hi none).run P w = .ok (l, h, cap) w := by
    intro cap hc
    have h2 := hh cap hc
    unfold Instr.sliceBounds
    cases hi with
    | none =>
      have h2 : m = h := by rcases hhi with ⟨_, rfl⟩ | ⟨k, hk⟩ <;> first | rfl | cases hk
      subst h2
      cases lo with
      | none =>
        have h3 : l = 0 := by rcases hlo with ⟨_, rfl⟩ | ⟨k, hk⟩ <;> first | rfl | cases hk
        subst h3; rfl
      | some v => simp only [Sem.run_bind, Sem.run_pure, Result.andThen_ok, hl]
    | some u =>
      cases lo with
      | none =>
        have h3 : l = 0 := by rcases hlo with ⟨_, rfl⟩ | ⟨k, hk⟩ <;> first | rfl | cases hk
        subst h3
        simp only [Sem.run_bind, Sem.run_pure, Result.andThen_ok, h2]
      | some v => simp only [Sem.run_bind, Sem.run_pure, Result.andThen_ok, h2, hl]
  have step : ∀ (a : Option Addr) (cap : Nat), x0 = .slice a m cap → m ≤ cap → (Instr.sliceAt t x0 lo hi none).run P w = .ok (.slice (if cap = l then a else a.map (·.add (l * n))) (h - l) (cap - l)) w := by
    rintro a cap rfl hc
    unfold Instr.sliceAt
    simp only [Sem.run_bind, run_under h1, Result.andThen_ok]
    unfold Instr.slice
    simp only [Sem.run_bind, run_under h1, Result.andThen_ok, hb cap hc, tySize_ok hn, Sem.run_pure]
  obtain ⟨_, h2 | h2⟩ := hok
  · obtain ⟨c, rfl, rfl, _⟩ := h2
    refine ⟨_, ⟨_, hx, .inl ⟨c, c - l, rfl, ?_, by omega, by omega⟩⟩, step none c rfl (Nat.zero_le _)⟩
    have : h - l = 0 := by omega
    rw [this]
    split <;> rfl
  · obtain ⟨b, off, cap, rfl, k1, k2, _⟩ := h2
    by_cases hc : cap = l
    · refine ⟨_, ⟨_, hx, .inr ⟨b, off, m, cap, off, cap - l, rfl, by rw [if_pos hc], by omega, by omega, fun h3 => by omega⟩⟩, step _ cap rfl k2⟩
    · refine ⟨_, ⟨_, hx, .inr ⟨b, off, m, cap, off + l * n, cap - l, rfl, ?_, by omega, by omega, fun _ => rfl⟩⟩, step _ cap rfl k2⟩
      rw [if_neg hc]
      simp only [Option.map_some, addr_add]
theorem reads_part {t el : TypeId} {x : Operand} {lo hi : Option Operand} {id l h n m : Nat} {own : Bool} {ety : TypeId} {cols : List Col} (h1 : P.underlying t = some (.slice el)) (hn : tySize P el = some n) {vs : List V}
    (hb : ∀ (β : Bm) (ρ : Operand → Value), All2 (V.rel β) vs ((lo.toList ++ hi.toList).map ρ) → boundIs (lo.map ρ) 0 l ∧ boundIs (hi.map ρ) m h) (hlh : l ≤ h) (hhm : h ≤ m) :
    Reads P (.slice t x lo hi none) (.val (.one (.vec id)) :: vs) id (.vec own ety m cols) (.val (.one (.sub id n l (h - l)))) := by
  intro β ρ o w p ho hr hp hok
  obtain ⟨dst, op, type, pos, after, guard⟩ := o; simp only at ho; subst ho
  have e0 : (Op.slice t x lo hi none).operands.toList.map ρ = ρ x :: (lo.toList ++ hi.toList).map ρ := by simp [Op.operands]
  rw [e0] at hr
  obtain ⟨⟨hx, _⟩, hr⟩ := hr
  obtain ⟨b1, b2⟩ := hb β ρ hr
  rw [hx] at hp; cases hp
  obtain ⟨y, hy, hrun⟩ := run_part (P := P) (w := w) h1 hn hx hok b1 b2 hlh hhm
  exact ⟨y, hy, by simp only [execOp, Option.map_none, Sem.run_bind, hrun, Result.andThen_ok]; rfl⟩
/-- 'append(l, m...)' -/
theorem eff_append {X : Cx} {t : TypeId} {sx xx : Operand} {e : TypeId} {stride bytes : Nat} (hT : appTy P t = some (e, stride, bytes)) {s : S} {id id2 fresh : Nat} {l2 : L} {n m : Nat} {cols cols2 cols' : List Col} (hcl : cols.length = stride)
    (h1 : s.blk id = some (.vec true e n cols)) (h2 : srcOf s l2 = some (id2, m, cols2)) (hid : id ≠ id2) (hfr : s.blk fresh = none) (happ : appCols n cols cols2 = some cols') (hpl : cols2.all Col.plain = true) (hneed : ((n + m) + (n + m) / 4 + 192) * bytes ≤ 281474976710656) :
    EffOk P X (.call { callee := .builtin .append, args := #[sx, xx], argTypes := #[t, t] }) s [.val (.one (.vec id)), .val (.one l2)] ⟨.val (.one (.vec fresh)), [id, id2], [(id, some .gone), (fresh, some (.vec true e (n + m) cols'))]⟩ := by
  intro o ho hd D s2 a w β hC hb hB hargs hrd hwr K Q hK
  obtain ⟨hTy, hbp⟩ := appTy_ok hT
  have q1 : s2.blk id = some (.vec true e n cols) := by rw [hrd id (by simp), h1]
  have q3 : s2.blk fresh = none := by rw [hwr (fresh, some (.vec true e (n + m) cols')) (by simp), hfr]
  have hif : id ≠ fresh := fun e => by rw [e, q3] at q1; cases q1
  obtain ⟨⟨a1, _⟩, a2, _⟩ := hargs
  obtain ⟨p1, b1, b2, b3⟩ := hB.mem id _ q1
  obtain ⟨e2, c2⟩ := srcOf_ok hB h2 (hrd id2 (by simp)) a2
  rw [a1] at b1; cases b1
  have hB1 := hB.drop q1
  obtain ⟨v', w', β', r1, r2, r3, r4, r5, r6⟩ := append_step (P := P) (ty := o.type) hTy (s2 := ⟨s2.tmp, upd s2.blk (look [(id, some .gone)])⟩) (fresh := fresh) hC hB1 hcl happ hpl b2 (b3 rfl)
    (by simp only [upd_one, if_neg hif.symm]; exact q3)
    (fun i q p b hq hg hp hf hf1 => by
      simp only [upd_one] at hq
      split at hq
      · cases hq; exact hg rfl
      · rename_i hne
        exact hne (hB.inj id i _ q _ p b q1 hq rfl hg a1 hp hf1 hf).symm)
    c2 hneed hbp
  obtain ⟨dst, op, type, pos, after, guard⟩ := o
  simp only at ho; subst ho
  unfold Oper.wp
  have e1 : (execOp a.eval ⟨dst, .call { callee := .builtin .append, args := #[sx, xx], argTypes := #[t, t] }, type, pos, after, guard⟩).run P w = .ok (.value v') w' := by
    simp only [execOp, resolve, invoke, builtin, Sem.run_bind, Sem.run_pure, Result.andThen_ok]
    have : #[sx, xx].map a.eval = #[a.eval sx, a.eval xx] := by simp
    rw [this]
    rw [show (Builtin.append_ #[t, t] type #[a.eval sx, a.eval xx]).run P w = .ok v' w' from r1]
    rfl
  rw [e1]
  refine hK _ _ ⟨r2, β', Bm.le_trans hb r3, ?_⟩
  rw [look_two _ _ _ _ _ hif]
  exact r6.put hd (v := .val (.one (.vec fresh))) ⟨r4, r5⟩
theorem nil_vec (β : Bm) (w : World) (e : TypeId) (cols : List Col) : (Ob.vec true e 0 cols).ok β w (.val (.slice none 0 0)) := ⟨Nat.zero_le _, .inl ⟨0, rfl, rfl, fun _ => rfl⟩⟩
/-- 'append(nil, m...)' -/
theorem eff_appendNil {X : Cx} {t : TypeId} {sx xx : Operand} {e : TypeId} {stride bytes : Nat} (hT : appTy P t = some (e, stride, bytes)) {s : S} {id2 fresh : Nat} {l2 : L} {m : Nat} {cols2 cols' : List Col} (hcl : cols2.length = stride)
    (h2 : srcOf s l2 = some (id2, m, cols2)) (hfr : s.blk fresh = none) (happ : appCols 0 cols2 cols2 = some cols') (hpl : cols2.all Col.plain = true) (hneed : ((0 + m) + (0 + m) / 4 + 192) * bytes ≤ 281474976710656) :
    EffOk P X (.call { callee := .builtin .append, args := #[sx, xx], argTypes := #[t, t] }) s [.val (.one (.cst (.slice none 0 0))), .val (.one l2)] ⟨.val (.one (.vec fresh)), [id2], [(fresh, some (.vec true e (0 + m) cols'))]⟩ := by
  intro o ho hd D s2 a w β hC hb hB hargs hrd hwr K Q hK
  obtain ⟨hTy, hbp⟩ := appTy_ok hT
  have q3 : s2.blk fresh = none := by rw [hwr (fresh, some (.vec true e (0 + m) cols')) (by simp), hfr]
  obtain ⟨a1, a2, _⟩ := hargs
  have a1 : a.eval sx = .slice none 0 0 := a1
  obtain ⟨e2, c2⟩ := srcOf_ok hB h2 (hrd id2 (by simp)) a2
  obtain ⟨v', w', β', r1, r2, r3, r4, r5, r6⟩ := append_step (P := P) (ty := o.type) hTy (s2 := s2) (fresh := fresh) (x1 := .slice none 0 0) hC hB hcl happ hpl (nil_vec β w e cols2) (fun b hb => by cases hb) q3
    (fun i q p b _ _ _ _ hf1 => by cases hf1) c2 hneed hbp
  obtain ⟨dst, op, type, pos, after, guard⟩ := o
  simp only at ho; subst ho
  unfold Oper.wp
  have e1 : (execOp a.eval ⟨dst, .call { callee := .builtin .append, args := #[sx, xx], argTypes := #[t, t] }, type, pos, after, guard⟩).run P w = .ok (.value v') w' := by
    simp only [execOp, resolve, invoke, builtin, Sem.run_bind, Sem.run_pure, Result.andThen_ok]
    have : #[sx, xx].map a.eval = #[.slice none 0 0, a.eval xx] := by simp [a1]
    rw [this]
    rw [show (Builtin.append_ #[t, t] type #[.slice none 0 0, a.eval xx]).run P w = .ok v' w' from r1]
    rfl
  rw [e1]
  exact hK _ _ ⟨r2, β', Bm.le_trans hb r3, r6.put hd (v := .val (.one (.vec fresh))) ⟨r4, r5⟩⟩
end
end Go.Proofs.YtcecdpebapkfaaaHy
namespace Go.Proofs.YtcecdpebapkfaaaHy
open Go Go.RowKit
section
variable {P : Program} {X : Cx}

def PathsOk (P : Program) (X : Cx) (op : Op) (s : S) (args : List V) (l : List Path) : Prop := ∃ p ∈ l, holdsP p.g ∧ (holdsP p.need → EffOk P X op s args p.e)
def one1 (v : V) : List Path := [⟨none, none, ⟨v, [], []⟩⟩]
theorem one1_ok {op : Op} {s : S} {args : List V} {v : V} (h : Gives P op args v) : PathsOk P X op s args (one1 v) := ⟨_, List.mem_singleton.2 rfl, trivial, fun _ => h.eff s⟩
def oneE (e : Eff) : List Path := [⟨none, none, e⟩]
theorem oneE_ok {op : Op} {s : S} {args : List V} {e : Eff} (h : EffOk P X op s args e) : PathsOk P X op s args (oneE e) := ⟨_, List.mem_singleton.2 rfl, trivial, fun _ => h⟩
def oneN (n : Prop) (e : Eff) : List Path := [⟨none, some n, e⟩]
theorem oneN_ok {op : Op} {s : S} {args : List V} {n : Prop} {e : Eff} (h : n → EffOk P X op s args e) : PathsOk P X op s args (oneN n e) := ⟨_, List.mem_singleton.2 rfl, trivial, h⟩

/-- a value without its condition; what that needs -/
def bare : V → V × Option Bool
  | .opt c v => (v, some c)
  | v => (v, none)
theorem bare_ok {v : V} {β : Bm} {x : Value} (h : v.rel β x) (hc : ∀ c, (bare v).2 = some c → c = true) : (bare v).1.rel β x := by
  cases v with
  | opt c v => exact h (hc c rfl)
  | _ => exact h
def needP (k : Bool) (c : Bool) : Option Bool → Option Prop
  | none => none
  | some d => some (c = k → d = true)
theorem needP_ok {k c : Bool} {o : Option Bool} (h : holdsP (needP k c o)) (hc : c = k) : ∀ d, o = some d → d = true := by
  intro d hd
  subst hd
  exact h hc
def and2 : Option Prop → Option Prop → Option Prop
  | none, x => x
  | some p, none => some p
  | some p, some q => some (p ∧ q)
theorem and2_ok {a b : Option Prop} (h : holdsP (and2 a b)) : holdsP a ∧ holdsP b := by
  cases a with
  | none => exact ⟨trivial, h⟩
  | some p => cases b with
    | none => exact ⟨h, trivial⟩
    | some q => exact h
def mergeV (c : Bool) (a b : V) : Option V := match a, b with
  | .val (.one (.bool x)), .val (.one (.bool y)) => some (.val (.one (.bool (.tm (bif c then x.v else y.v)))))
  | .val (.one (.int k x)), .val (.one (.int k' y)) => if kindEq k k' then some (.val (.one (.int k (.tm (bif c then x.v else y.v))))) else none
  | _, _ => none
theorem mergeV_ok {c : Bool} {a b r : V} (h : mergeV c a b = some r) {β : Bm} {x : Value} (ha : c = true → a.rel β x) (hb : c = false → b.rel β x) : r.rel β x := by
  unfold mergeV at h
  split at h
  · cases h
    cases c
    · exact hb rfl
    · exact ha rfl
  · split at h
    · rename_i hk
      have := kindEq_eq hk
      subst this
      cases h
      cases c
      · exact hb rfl
      · exact ha rfl
    · cases h
  · cases h
def pPick (args : List V) : Option (List Path) := match args with
  | [.val (.one (.bool (.lit true))), a, _] => some (one1 a)
  | [.val (.one (.bool (.lit false))), _, b] => some (one1 b)
  | [.val (.one (.bool (.tm c))), a, b] => match mergeV c (bare a).1 (bare b).1 with
    | some r => some [⟨none, and2 (needP true c (bare a).2) (needP false c (bare b).2), ⟨r, [], []⟩⟩]
    | none => some [⟨some (c = true), none, ⟨a, [], []⟩⟩, ⟨some (c = false), none, ⟨b, [], []⟩⟩]
  | _ => none
theorem pPick_ok {c a b : Operand} {s : S} {args : List V} {l : List Path} (h : pPick args = some l) : PathsOk P X (.pick c a b) s args l := by
  unfold pPick at h
  split at h
  · cases h; exact one1_ok (gives_pick c a b (.lit true) _ _)
  · cases h; exact one1_ok (gives_pick c a b (.lit false) _ _)
  · rename_i e va vb
    split at h
    · rename_i r hr
      cases h
      refine ⟨_, List.mem_singleton.2 rfl, trivial, fun hn => ?_⟩
      obtain ⟨h1, h2⟩ := and2_ok hn
      refine Gives.eff (v := r) (fun β ρ o ho hx => ?_) s
      obtain ⟨x, hx1, hx2⟩ := gives_pick (P := P) c a b (.tm e) va vb β ρ o ho hx
      refine ⟨x, mergeV_ok hr (fun hc => ?_) (fun hc => ?_), hx2⟩
      · simp only [B.v, hc, if_true] at hx1
        exact bare_ok hx1 (needP_ok h1 hc)
      · simp only [B.v, hc, Bool.false_eq_true, if_false] at hx1
        exact bare_ok hx1 (needP_ok h2 hc)
    · cases h
      cases he : e with
      | true => exact ⟨_, List.mem_cons_self, rfl, fun _ => by have := gives_pick (P := P) c a b (.tm true) va vb; exact this.eff s⟩
      | false => exact ⟨_, List.mem_cons_of_mem _ List.mem_cons_self, rfl, fun _ => by have := gives_pick (P := P) c a b (.tm false) va vb; exact this.eff s⟩
  · cases h
def lays (P : Program) (t : TypeId) (cells : List L) : Option (List Seg) := match layOf P 16 t with
  | some l => mkSegs l cells
  | none => none
theorem lays_ok {t : TypeId} {cells : List L} {segs : List Seg} (h : lays P t cells = some segs) : ∃ lay, mkSegs lay cells = some segs := by
  unfold lays at h; split at h
  · exact ⟨_, h⟩
  · cases h
def pAlloc (P : Program) (t : TypeId) (fresh : Nat) (args : List V) : Option (List Path) := match args, zeroW P t with
  | [], some zw => match lays P t zw.cells with
    | some segs => some (oneE ⟨.val (.one (.ptr fresh 0)), [], [(fresh, some (.mem true segs))]⟩)
    | none => none
  | _, _ => none
theorem pAlloc_ok {t : TypeId} {s : S} {fresh : Nat} (hf : s.blk fresh = none) {args : List V} {l : List Path} (h : pAlloc P t fresh args = some l) : PathsOk P X (.alloc t) s args l := by
  unfold pAlloc at h
  split at h
  · rename_i zw hz
    split at h
    · rename_i segs hs
      cases h
      obtain ⟨lay, hl⟩ := lays_ok hs
      exact oneE_ok ((makes_alloc hz hl).eff hf)
    · cases h
  · cases h
def pBox (P : Program) (t : TypeId) (fresh : Nat) (args : List V) : Option (List Path) := match args with
  | [.val w] => if w.firm then (match lays P t w.cells with
    | some segs => some (oneE ⟨.val (.one (.ptr fresh 0)), [], [(fresh, some (.mem true segs))]⟩)
    | none => none) else none
  | _ => none
theorem pBox_ok {t : TypeId} {x : Operand} {s : S} {fresh : Nat} (hf : s.blk fresh = none) {args : List V} {l : List Path} (h : pBox P t fresh args = some l) : PathsOk P X (.box t x) s args l := by
  unfold pBox at h
  split at h
  · split at h
    · rename_i hfm
      split at h
      · rename_i segs hs
        cases h
        obtain ⟨lay, hl⟩ := lays_ok hs
        exact oneE_ok ((makes_box hfm hl).eff hf)
      · cases h
    · cases h
  · cases h
def pBuild (P : Program) (t : TypeId) (parts : Array (Nat × Operand)) (args : List V) : Option (List Path) := match allW args with
  | some ws => if Nat.beq ws.length parts.toList.length then (match buildW P t ((parts.toList.map (·.1)).zip ws) with
    | some ls => some (one1 (.val (.agg ls)))
    | none => none) else none
  | none => none
theorem pBuild_ok {t : TypeId} {parts : Array (Nat × Operand)} {s : S} {args : List V} {l : List Path} (h : pBuild P t parts args = some l) : PathsOk P X (.build t parts) s args l := by
  unfold pBuild at h
  split at h
  · rename_i ws hws
    split at h
    · rename_i hlen
      split at h
      · rename_i ls hls
        cases h
        exact one1_ok (gives_build hws (Nat.eq_of_beq_eq_true hlen) hls)
      · cases h
    · cases h
  · cases h
def pSlice1 (P : Program) (t : TypeId) (len : Nat) (parts : List (Nat × Operand)) (fresh : Nat) (args : List V) : Option (List Path) := match len, parts, args, P.underlying t with
  | 1, [(0, _)], [.val w], some (.slice el) => match tySize P el, zeroW P el, colsOf w.cells with
    | some n, some zw, some cols => if Nat.blt 0 n && Nat.ble n 64 && w.firm && Nat.beq w.cells.length n && Nat.beq zw.cells.length n then some (oneE ⟨.val (.one (.vec fresh)), [], [(fresh, some (.vec true el 1 cols))]⟩) else none
    | _, _, _ => none
  | _, _, _, _ => none
theorem pSlice1_ok {t : TypeId} {len : Nat} {parts : Array (Nat × Operand)} {s : S} {fresh : Nat} (hf : s.blk fresh = none) {args : List V} {l : List Path} (h : pSlice1 P t len parts.toList fresh args = some l) : PathsOk P X (.buildSlice t len parts) s args l := by
  unfold pSlice1 at h
  split at h
  · rename_i x w el hp ht
    split at h
    · rename_i n zw cols hn hz hc
      split at h
      · rename_i hb
        simp only [Bool.and_eq_true] at hb
        cases h
        have e : parts = #[(0, x)] := by apply Array.ext'; rw [hp]
        subst e
        exact oneE_ok ((makes_slice1 ht hn (by simpa using hb.1.1.1.1) (Nat.le_of_ble_eq_true hb.1.1.1.2) ⟨zw, hz, Nat.eq_of_beq_eq_true hb.2⟩ hb.1.1.2 (Nat.eq_of_beq_eq_true hb.1.2) hc).eff hf)
      · cases h
    · cases h
  · cases h
def pLoad (P : Program) (t : TypeId) (s : S) (args : List V) : Option (List Path) := match args with
  | [.val (.one (.ptr id off))] => (match s.blk id with
    | some (.mem _own segs) => (match tyAgg P t, tySize P t with
      | some true, some n => (match loadN segs off n with | some ls => some (oneE ⟨.val (.agg ls), [id], []⟩) | none => none)
      | some false, _ => (match loadCell segs off with | some l => some (oneE ⟨.val (.one l), [id], []⟩) | none => none)
      | _, _ => none)
    | _ => none)
  | [.val (.one l)] => (match eltId l with
    | some id => (match s.blk id with
      | some ob => (match eltOf ob l with
        | some (i, off, n, cols) => (match tyAgg P t, tySize P t with
          | some true, some m => if Nat.ble (off + m) cols.length then some (oneN (i < n) ⟨.val (.agg (((eltLs cols i).drop off).take m)), [id], []⟩) else none
          | some false, _ => (match (eltLs cols i)[off]? with | some r => some (oneN (i < n) ⟨.val (.one r), [id], []⟩) | none => none)
          | _, _ => none)
        | none => none)
      | none => none)
    | none => none)
  | _ => none
theorem pLoad_ok {t : TypeId} {x : Operand} {s : S} {args : List V} {l : List Path} (h : pLoad P t s args = some l) : PathsOk P X (.load t x) s args l := by
  unfold pLoad at h
  split at h
  · split at h
    · rename_i own segs hb
      split at h
      · rename_i n h1 h2
        split at h
        · rename_i ls hl; cases h; exact oneE_ok ((reads_load h1 h2 hl).eff hb)
        · cases h
      · rename_i h1
        split at h
        · rename_i r hl; cases h; exact oneE_ok ((reads_load1 h1 hl).eff hb)
        · cases h
      · cases h
    · cases h
  · split at h
    · rename_i id hid
      split at h
      · rename_i ob hb
        split at h
        · rename_i i off n cols he
          split at h
          · rename_i m h1 h2
            split at h
            · rename_i hm; cases h; exact oneN_ok fun hi => (reads_elt hid he h1 h2 (Nat.le_of_ble_eq_true hm) hi).eff hb
            · cases h
          · rename_i h1
            split at h
            · rename_i r hr; cases h; exact oneN_ok fun hi => (reads_elt1 hid he h1 hr hi).eff hb
            · cases h
          · cases h
        · cases h
      · cases h
    · cases h
  · cases h
def pStore (P : Program) (t : TypeId) (s : S) (args : List V) : Option (List Path) := match args with
  | [.val (.one (.ptr id off)), .val w] => (match s.blk id, tySize P t with
    | some (.mem true segs), some n => if w.firm && Nat.beq w.cells.length n && Nat.ble off (segsSize segs) then (match storeS segs off w.cells with
      | some segs' => some (oneE ⟨undefV, [], [(id, some (.mem true segs'))]⟩)
      | none => none) else none
    | _, _ => none)
  | [.val (.one (.elt id base stride i off)), .val wv] => (match s.blk id, tySize P t with
    | some (.mem true segs), some m => if wv.firm && Nat.beq wv.cells.length m && !wv.cells.isEmpty then (match storeEltN segs base stride i off wv.cells, rowAt segs base with
      | some segs', some (n, _) => some (oneN (i < n) ⟨undefV, [], [(id, some (.mem true segs'))]⟩)
      | _, _ => none) else none
    | _, _ => none)
  | [.val (.one (.lel id stride i off)), .val wv] => (match s.blk id, tySize P t with
    | some (.vec true e n cols), some m => if wv.firm && Nat.beq wv.cells.length m && !wv.cells.isEmpty && Nat.beq stride cols.length then (match putCols i cols off wv.cells with
      | some cols' => some (oneN (i < n) ⟨undefV, [], [(id, some (.vec true e n cols'))]⟩)
      | none => none) else none
    | _, _ => none)
  | _ => none
theorem pStore_ok {t : TypeId} {x y : Operand} {s : S} {args : List V} {l : List Path} (h : pStore P t s args = some l) : PathsOk P X (.store t x y) s args l := by
  unfold pStore at h
  split at h
  · split at h
    · rename_i segs n hb hn
      split at h
      · rename_i hc
        simp only [Bool.and_eq_true] at hc
        split at h
        · rename_i segs' hs
          cases h
          exact oneE_ok ((writes_cells hn hc.1.1 (Nat.eq_of_beq_eq_true hc.1.2) hs (Nat.le_of_ble_eq_true hc.2)).eff hb)
        · cases h
      · cases h
    · cases h
  · split at h
    · rename_i segs m hb hn
      split at h
      · rename_i hf
        simp only [Bool.and_eq_true, Bool.not_eq_true', List.isEmpty_eq_false_iff] at hf
        split at h
        · rename_i segs' n cols hs hr
          cases h
          exact oneN_ok fun hi => (writes_elt hn hf.1.1 (Nat.eq_of_beq_eq_true hf.1.2) hs hf.2 hr hi).eff hb
        · cases h
      · cases h
    · cases h
  · split at h
    · rename_i e n cols m hb hn
      split at h
      · rename_i hf
        simp only [Bool.and_eq_true, Bool.not_eq_true', List.isEmpty_eq_false_iff] at hf
        have := Nat.eq_of_beq_eq_true hf.2
        subst this
        split at h
        · rename_i cols' hc
          cases h
          exact oneN_ok fun hi => (writes_lel hn hf.1.1.1 (Nat.eq_of_beq_eq_true hf.1.1.2) hc hf.1.2 hi).eff hb
        · cases h
      · cases h
    · cases h
  · cases h
def pNil (args : List V) : Option (List Path) := match args with
  | [.val (.one l)] => if isPtr l then some (one1 (.val (.one l))) else none
  | _ => none
theorem pNil_ok {x : Operand} {s : S} {args : List V} {l : List Path} (h : pNil args = some l) : PathsOk P X (.nilCheck x) s args l := by
  unfold pNil at h
  split at h
  · split at h
    · rename_i hp; cases h; exact one1_ok (gives_nilCheck x hp)
    · cases h
  · cases h
def ptrTy (P : Program) (t : TypeId) : Bool := match P.underlying t with
  | some (.pointer _) => true
  | _ => false
theorem ptrTy_ok {t : TypeId} (h : ptrTy P t = true) : P.underlying t = some (.pointer (P.pointee t)) := by
  unfold ptrTy at h
  split at h
  · rename_i u hu; simp [Program.pointee, hu]
  · cases h
def pBin (P : Program) (op : BinOp) (t : TypeId) (args : List V) : Option (List Path) := match args with
  | [.val (.one (.cst (.pointer none))), .val (.one (.cst (.pointer none)))] => if ptrTy P t then (match op with
    | .eql => some (one1 (.val (.one (.bool (.lit true)))))
    | .neq => some (one1 (.val (.one (.bool (.lit false)))))
    | _ => none) else none
  | [.val (.one l), .val (.one (.cst (.pointer none)))] => if isPtr l && ptrTy P t then (match op with
    | .eql => some (one1 (.val (.one (.bool (.lit false)))))
    | .neq => some (one1 (.val (.one (.bool (.lit true)))))
    | _ => none) else none
  | [.val a, .val b] => (match binV P op t a b with | some r => some (one1 (.val (.one r))) | none => none)
  | _ => none
theorem pBin_ok {op : BinOp} {t yt : TypeId} {x y : Operand} {s : S} {args : List V} {l : List Path} (h : pBin P op t args = some l) : PathsOk P X (.binOp op t x y yt) s args l := by
  unfold pBin at h
  split at h
  · split at h
    · rename_i ht
      split at h
      · cases h; exact one1_ok (gives_nilNil (ptrTy_ok ht) (.inl ⟨rfl, rfl⟩))
      · cases h; exact one1_ok (gives_nilNil (ptrTy_ok ht) (.inr ⟨rfl, rfl⟩))
      · cases h
    · cases h
  · split at h
    · rename_i hc
      simp only [Bool.and_eq_true] at hc
      split at h
      · cases h; exact one1_ok (gives_ptrNil hc.1 (ptrTy_ok hc.2) (.inl ⟨rfl, rfl⟩))
      · cases h; exact one1_ok (gives_ptrNil hc.1 (ptrTy_ok hc.2) (.inr ⟨rfl, rfl⟩))
      · cases h
    · cases h
  · split at h
    · rename_i r hr; cases h; exact one1_ok (gives_bin hr)
    · cases h
  · cases h
def pUn (op : UnOp) (args : List V) : Option (List Path) := match op, args with
  | .not, [.val (.one (.bool e))] => some (one1 (.val (.one (.bool (mkNot e)))))
  | .neg, [.val (.one (.int k e))] => some (one1 (.val (.one (.int k (e.map fun n => k.wrap (0 - n))))))
  | .xor, [.val (.one (.int k e))] => some (one1 (.val (.one (.int k (e.map fun n => Go.bits .xor k (if k.signed then -1 else k.max) n)))))
  | _, _ => none
theorem pUn_ok {op : UnOp} {t : TypeId} {x : Operand} {s : S} {args : List V} {l : List Path} (h : pUn op args = some l) : PathsOk P X (.unOp op t x) s args l := by
  unfold pUn at h
  split at h
  · cases h; exact one1_ok (gives_not _)
  · cases h; exact one1_ok (gives_neg _ _)
  · cases h; exact one1_ok (gives_compl _ _)
  · cases h
def pConv (P : Program) (src d : TypeId) (args : List V) : Option (List Path) := match args, P.underlying src, P.underlying d with
  | [.val (.one (.int _ e))], some _, some (.int k) => some (one1 (.val (.one (.int k (e.map k.wrap)))))
  | _, _, _ => none
theorem pConv_ok {src d : TypeId} {x : Operand} {s : S} {args : List V} {l : List Path} (h : pConv P src d args = some l) : PathsOk P X (.convert src d x) s args l := by
  unfold pConv at h
  split at h
  · rename_i h1 h2; cases h; exact one1_ok (gives_convert h1 h2)
  · cases h
def pFieldAddr (P : Program) (t : TypeId) (f : Nat) (args : List V) : Option (List Path) := match args, P.underlying t with
  | [.val (.one l)], some (.struct fs) => (match fs[f]? with
    | some g => (match tySize P g.type, moveL g.offset l with
      | some (_ + 1), some l' => some (one1 (.val (.one l')))
      | _, _ => none)
    | none => none)
  | _, _ => none
theorem pFieldAddr_ok {t : TypeId} {x : Operand} {f : Nat} {s : S} {args : List V} {l : List Path} (h : pFieldAddr P t f args = some l) : PathsOk P X (.fieldAddr t x f) s args l := by
  unfold pFieldAddr at h
  split at h
  · rename_i h1
    split at h
    · rename_i g hg
      split at h
      · rename_i n l' hn hl; cases h; exact one1_ok (gives_fieldAddr h1 hg hn (by omega) hl)
      · cases h
    · cases h
  · cases h
def pField (P : Program) (t : TypeId) (f : Nat) (args : List V) : Option (List Path) := match args, P.underlying t with
  | [.val (.agg ls)], some (.struct fs) => (match fs[f]? with
    | some g => (match partW P g.type ls g.offset with
      | some w => some (one1 (.val w))
      | none => none)
    | none => none)
  | _, _ => none
theorem pField_ok {t : TypeId} {x : Operand} {f : Nat} {s : S} {args : List V} {l : List Path} (h : pField P t f args = some l) : PathsOk P X (.field t x f) s args l := by
  unfold pField at h
  split at h
  · rename_i h1
    split at h
    · rename_i g hg
      split at h
      · rename_i w hw; cases h; exact one1_ok (gives_field h1 hg hw)
      · cases h
    · cases h
  · cases h
def pIndexAddr (P : Program) (t : TypeId) (s : S) (args : List V) : Option (List Path) := match args, P.underlying t with
  | [.val (.one (.ptr id off)), .val (.one (.int _ e))], some (.array len el) => (match tySize P el with
    | some n => (match e with
      | .lit c => if 0 ≤ c ∧ c < len then some (one1 (.val (.one (.ptr id (off + c.toNat * n))))) else none
      | .tm c => some (oneN (0 ≤ c ∧ c < len) ⟨.val (.one (.elt id off n c.toNat 0)), [], []⟩))
    | none => none)
  | [.val (.one (.vec id)), .val (.one (.int _ e))], some (.slice el) => (match tySize P el, s.blk id with
    | some n, some (.vec _ _ m _) => some (oneN (0 ≤ e.v ∧ e.v < m) ⟨.val (.one (.lel id n e.v.toNat 0)), [id], []⟩)
    | _, _ => none)
  | _, _ => none
theorem pIndexAddr_ok {t : TypeId} {x i : Operand} {s : S} {args : List V} {l : List Path} (h : pIndexAddr P t s args = some l) : PathsOk P X (.indexAddr t x i) s args l := by
  unfold pIndexAddr at h
  split at h
  · rename_i h1
    split at h
    · rename_i n hn
      split at h
      · split at h
        · rename_i hc; cases h; exact one1_ok (gives_indexArr h1 hn hc.1 hc.2 (.inr rfl))
        · cases h
      · cases h; exact oneN_ok fun hc => (gives_indexArr (e := .tm _) h1 hn hc.1 hc.2 (.inl rfl)).eff s
    · cases h
  · rename_i h1
    split at h
    · rename_i n own ety m cols hn hb
      cases h; exact oneN_ok fun hc => (reads_indexVec h1 hn hc.1 hc.2).eff hb
    · cases h
  · cases h
def pIndex (P : Program) (t : TypeId) (args : List V) : Option (List Path) := match args, P.underlying t with
  | [.val (.agg ls), .val (.one (.int _ (.lit c)))], some (.array len el) => (match tySize P el with
    | some n => if 0 ≤ c ∧ c < len then (match partW P el ls (c.toNat * n) with
      | some w => some (one1 (.val w))
      | none => none) else none
    | none => none)
  | _, _ => none
theorem pIndex_ok {t : TypeId} {x i : Operand} {s : S} {args : List V} {l : List Path} (h : pIndex P t args = some l) : PathsOk P X (.index t x i) s args l := by
  unfold pIndex at h
  split at h
  · rename_i h1
    split at h
    · rename_i n hn
      split at h
      · rename_i hc
        split at h
        · rename_i w hw; cases h; exact one1_ok (gives_index (e := .lit _) h1 hn hc.1 hc.2 hw)
        · cases h
      · cases h
    · cases h
  · cases h
def pLookup (P : Program) (t : TypeId) (ok : Bool) (s : S) (args : List V) : Option (List Path) := match args, P.underlying t with
  | [.val (.one (.map id)), .val (.one (.int key e))], some (.map kt et) => (match P.underlying kt, s.blk id, zeroW P et with
    | some (.int _), some (.mp _ key' agg has cols), some zw => if kindEq key key' then (match kW agg cols e.v with
      | some w => some [⟨some (has e.v = true), none, ⟨if ok then .tup [w, .one (.bool (.lit true))] else .val w, [id], []⟩⟩, ⟨some (has e.v = false), none, ⟨if ok then .tup [zw, .one (.bool (.lit false))] else .val zw, [id], []⟩⟩]
      | none => none) else none
    | _, _, _ => none)
  | _, _ => none
theorem pLookup_ok {t : TypeId} {x i : Operand} {ok : Bool} {s : S} {args : List V} {l : List Path} (h : pLookup P t ok s args = some l) : PathsOk P X (.lookup t x i ok) s args l := by
  unfold pLookup at h
  split at h
  · rename_i id key e kt et h1
    split at h
    · rename_i own key' agg has cols zw h2 hb hz
      split at h
      · rename_i hk
        have := kindEq_eq hk
        subst this
        split at h
        · rename_i w hw
          cases h
          have key : has e.v = true ∨ has e.v = false := by cases has e.v <;> simp
          rcases key with hh | hh
          · exact ⟨_, List.mem_cons_self, hh, fun _ => (reads_lookup h1 h2 hh hw).eff hb⟩
          · exact ⟨_, List.mem_cons_of_mem _ List.mem_cons_self, hh, fun _ => (reads_lookupNo h1 h2 hh hz).eff hb⟩
        · cases h
      · cases h
    · cases h
  · cases h
def pUpdate (P : Program) (t : TypeId) (s : S) (args : List V) : Option (List Path) := match args, P.underlying t with
  | [.val (.one (.map id)), .val (.one (.int key e)), .val w], some (.map kt _) => (match P.underlying kt, s.blk id with
    | some (.int _), some (.mp true key' agg has cols) => if kindEq key key' then (match kCells agg w with
      | some ls => (match kPuts e.v cols ls with
        | some cols' => some (oneE ⟨undefV, [], [(id, some (.mp true key' agg (putK has e.v true) cols'))]⟩)
        | none => none)
      | none => none) else none
    | _, _ => none)
  | _, _ => none
theorem pUpdate_ok {t : TypeId} {m i v : Operand} {s : S} {args : List V} {l : List Path} (h : pUpdate P t s args = some l) : PathsOk P X (.mapUpdate t m i v) s args l := by
  unfold pUpdate at h
  split at h
  · rename_i id key e w kt et h1
    split at h
    · rename_i kk key' agg has cols h2 hb
      split at h
      · rename_i hk
        have := kindEq_eq hk
        subst this
        split at h
        · rename_i ls hc
          split at h
          · rename_i cols' hp; cases h; exact oneE_ok ((writes_mapUpdate h1 h2 hc hp).eff hb)
          · cases h
        · cases h
      · cases h
    · cases h
  · cases h
/-- the columns of a map's elements -/
def zeroKCol (P : Program) (t : TypeId) : Option KCol := match P.underlying t with
  | some .bool => some (.bools fun _ => false)
  | some (.int k) => some (.ints k fun _ => 0)
  | _ => none
def zeroKCols (P : Program) : List TypeId → Option (List KCol)
  | [] => some []
  | t :: ts => match zeroKCol P t, zeroKCols P ts with
    | some c, some cs => some (c :: cs)
    | _, _ => none
def mapCols (P : Program) (et : TypeId) : Option (Bool × List KCol) := match P.underlying et with
  | some (.struct fs) => (match zeroKCols P (fs.toList.map (·.type)) with | some cs => some (true, cs) | none => none)
  | _ => (match zeroKCol P et with | some c => some (false, [c]) | none => none)
def pMakeMap (P : Program) (t : TypeId) (fresh : Nat) (args : List V) : Option (List Path) := match args, P.underlying t with
  | [], some (.map kt et) => (match P.underlying kt, mapCols P et with
    | some (.int key), some (agg, cols) => some (oneE ⟨.val (.one (.map fresh)), [], [(fresh, some (.mp true key agg (fun _ => false) cols))]⟩)
    | _, _ => none)
  | _, _ => none
theorem pMakeMap_ok {t : TypeId} {s : S} {fresh : Nat} (hf : s.blk fresh = none) {args : List V} {l : List Path} (h : pMakeMap P t fresh args = some l) : PathsOk P X (.makeMap t none) s args l := by
  unfold pMakeMap at h
  split at h
  · split at h
    · cases h; exact oneE_ok ((makes_map _ _ _).eff hf)
    · cases h
  · cases h
def pExtract (i : Nat) (args : List V) : Option (List Path) := match args with
  | [.tup ws] => (match ws[i]? with | some w => some (one1 (.val w)) | none => none)
  | _ => none
theorem pExtract_ok {x : Operand} {i : Nat} {s : S} {args : List V} {l : List Path} (h : pExtract i args = some l) : PathsOk P X (.extract x i) s args l := by
  unfold pExtract at h
  split at h
  · split at h
    · rename_i w hw; cases h; exact one1_ok (gives_extract hw)
    · cases h
  · cases h
def pLen (P : Program) (ats : Array TypeId) (s : S) (args : List V) : Option (List Path) := match args, ats[0]? with
  | [.val (.one (.vec id))], some t => (match P.underlying t, s.blk id with
    | some (.slice _), some (.vec _ _ n _) => some (oneE ⟨.val (.one (.int .i64 (.tm n))), [id], []⟩)
    | _, _ => none)
  | [.val (.one (.cst (.slice none 0 0)))], some t => (match P.underlying t with
    | some (.slice _) => some (one1 (.val (.one (.int .i64 (.lit 0)))))
    | _ => none)
  | _, _ => none
theorem pLen_ok {x : Operand} {ats : Array TypeId} {s : S} {args : List V} {l : List Path} (h : pLen P ats s args = some l) : PathsOk P X (.call { callee := .builtin .len, args := #[x], argTypes := ats }) s args l := by
  unfold pLen at h
  split at h
  · rename_i h0
    split at h
    · rename_i h1 hb; cases h; exact oneE_ok ((reads_len h0 h1).eff hb)
    · cases h
  · rename_i h0
    split at h
    · rename_i h1; cases h; exact one1_ok (gives_lenNil h0 h1)
    · cases h
  · cases h
def pDelete (P : Program) (ats : Array TypeId) (s : S) (args : List V) : Option (List Path) := match args, ats[0]? with
  | [.val (.one (.map id)), .val (.one (.int key e))], some t => (match P.underlying t with
    | some (.map kt _) => (match P.underlying kt, s.blk id with
      | some (.int _), some (.mp true key' agg has cols) => if kindEq key key' then some (oneE ⟨.tup [], [], [(id, some (.mp true key' agg (putK has e.v false) cols))]⟩) else none
      | _, _ => none)
    | _ => none)
  | _, _ => none
theorem pDelete_ok {x y : Operand} {ats : Array TypeId} {s : S} {args : List V} {l : List Path} (h : pDelete P ats s args = some l) : PathsOk P X (.call { callee := .builtin .delete, args := #[x, y], argTypes := ats }) s args l := by
  unfold pDelete at h
  split at h
  · rename_i id key e t h0
    split at h
    · rename_i kt et h1
      split at h
      · rename_i kk key' agg has cols h2 hs
        split at h
        · rename_i hk
          have := kindEq_eq hk
          subst this
          cases h
          refine oneE_ok ?_
          intro o ho hd D s2 a w β hc hb hB hargs _ hwr K Q hK
          have hs2 : s2.blk id = some (.mp true key agg has cols) := by rw [hwr (id, some (.mp true key agg (putK has e.v false) cols)) (by simp), hs]
          obtain ⟨p, k1, k2, k3⟩ := hB.mem id _ hs2
          obtain ⟨w', r1, r2, r3, r4, r5, r6, r7⟩ := writes_delete (m := x) (i := y) h0 h1 h2 β a.eval o w p ho hargs k1 k2
          unfold Oper.wp
          rw [r1]
          have hBw := hB.write (w' := w') hs2 rfl rfl k1 (by omega) (fun k _ hk => r6 k hk) (Nat.le_trans hc.base hc.size) r7
          refine hK _ _ ⟨hc.later r2 r3 r4 (by omega) (fun k hk hF => r6 k fun hf => ?_), β, hb, ?_⟩
          · rcases k3 rfl k hf with h1 | h1
            · omega
            · exact hF h1
          · exact hBw.put hd (v := .tup []) ⟨#[], rfl, trivial⟩
        · cases h
      · cases h
    · cases h
  · cases h
def pAppend (P : Program) (ats : Array TypeId) (s : S) (fresh : Nat) (args : List V) : Option (List Path) := match args, ats.toList with
  | [.val (.one (.vec id)), .val (.one l2)], [t, t'] => if Nat.beq t t' then (match appTy P t, s.blk id, srcOf s l2 with
    | some (e, stride, bytes), some (.vec true e' n cols), some (id2, m, cols2) => if !Nat.beq id id2 && Nat.beq e e' && Nat.beq cols.length stride && cols2.all Col.plain then (match appCols n cols cols2 with
      | some cols' => some (oneN (((n + m) + (n + m) / 4 + 192) * bytes ≤ 281474976710656) ⟨.val (.one (.vec fresh)), [id, id2], [(id, some .gone), (fresh, some (.vec true e (n + m) cols'))]⟩)
      | none => none) else none
    | _, _, _ => none) else none
  | [.val (.one (.cst (.slice none 0 0))), .val (.one l2)], [t, t'] => if Nat.beq t t' then (match appTy P t, srcOf s l2 with
    | some (e, stride, bytes), some (id2, m, cols2) => if Nat.beq cols2.length stride && cols2.all Col.plain then (match appCols 0 cols2 cols2 with
      | some cols' => some (oneN (((0 + m) + (0 + m) / 4 + 192) * bytes ≤ 281474976710656) ⟨.val (.one (.vec fresh)), [id2], [(fresh, some (.vec true e (0 + m) cols'))]⟩)
      | none => none) else none
    | _, _ => none) else none
  | _, _ => none
theorem pAppend_ok {x y : Operand} {ats : Array TypeId} {s : S} {fresh : Nat} (hf : s.blk fresh = none) {args : List V} {l : List Path} (h : pAppend P ats s fresh args = some l) : PathsOk P X (.call { callee := .builtin .append, args := #[x, y], argTypes := ats }) s args l := by
  unfold pAppend at h
  split at h
  · rename_i id l2 t t' hats
    split at h
    · rename_i hc
      have := Nat.eq_of_beq_eq_true hc
      subst this
      have e0 : ats = #[t, t] := by apply Array.ext'; rw [hats]
      subst e0
      split at h
      · rename_i e stride bytes e' n cols id2 m cols2 h1 h2 h3
        split at h
        · rename_i hb
          simp only [Bool.and_eq_true, Bool.not_eq_true'] at hb
          have hne : id ≠ id2 := fun e => by
            have h2 := hb.1.1.1
            rw [e, Nat.beq_refl] at h2; cases h2
          have := Nat.eq_of_beq_eq_true hb.1.1.2
          subst this
          split at h
          · rename_i cols' ha
            cases h
            exact oneN_ok fun hn => eff_append h1 (Nat.eq_of_beq_eq_true hb.1.2) h2 h3 hne hf ha hb.2 hn
          · cases h
        · cases h
      · cases h
    · cases h
  · rename_i l2 t t' hats
    split at h
    · rename_i hc
      have := Nat.eq_of_beq_eq_true hc
      subst this
      have e0 : ats = #[t, t] := by apply Array.ext'; rw [hats]
      subst e0
      split at h
      · rename_i e stride bytes id2 m cols2 h1 h3
        split at h
        · rename_i hb
          simp only [Bool.and_eq_true] at hb
          split at h
          · rename_i cols' ha
            cases h
            exact oneN_ok fun hn => eff_appendNil h1 (Nat.eq_of_beq_eq_true hb.1) h3 hf ha hb.2 hn
          · cases h
        · cases h
      · cases h
    · cases h
  · cases h
/-- a part of a list -/
def pSlice (P : Program) (t : TypeId) (lo hi mx : Option Operand) (s : S) (args : List V) : Option (List Path) := match lo, hi, mx, args, P.underlying t with
  | some _, none, none, [.val (.one (.vec id)), .val (.one (.int _ e))], some (.slice el) => (match tySize P el, s.blk id with
    | some n, some (.vec _ _ m _) => some (oneN (0 ≤ e.v ∧ e.v ≤ m) ⟨.val (.one (.sub id n e.v.toNat (m - e.v.toNat))), [id], []⟩)
    | _, _ => none)
  | none, some _, none, [.val (.one (.vec id)), .val (.one (.int _ e))], some (.slice el) => (match tySize P el, s.blk id with
    | some n, some (.vec _ _ m _) => some (oneN (0 ≤ e.v ∧ e.v ≤ m) ⟨.val (.one (.sub id n 0 (e.v.toNat - 0))), [id], []⟩)
    | _, _ => none)
  | some _, some _, none, [.val (.one (.vec id)), .val (.one (.int _ e)), .val (.one (.int _ f))], some (.slice el) => (match tySize P el, s.blk id with
    | some n, some (.vec _ _ m _) => some (oneN (0 ≤ e.v ∧ e.v ≤ f.v ∧ f.v ≤ m) ⟨.val (.one (.sub id n e.v.toNat (f.v.toNat - e.v.toNat))), [id], []⟩)
    | _, _ => none)
  | _, _, _, _, _ => none
theorem pSlice_ok {t : TypeId} {x : Operand} {lo hi mx : Option Operand} {s : S} {args : List V} {l : List Path} (h : pSlice P t lo hi mx s args = some l) : PathsOk P X (.slice t x lo hi mx) s args l := by
  have num : ∀ {β : Bm} {ρ : Operand → Value} {y : Operand} {k : IntKind} {e : N} {d : Nat}, (L.int k e).rel β (ρ y) → 0 ≤ e.v → boundIs (some (ρ y)) d e.v.toNat := by
    intro β ρ y k e d hr h0
    have hr : ρ y = .int k e.v := hr
    exact .inr ⟨k, by rw [hr]; congr 2; omega⟩
  unfold pSlice at h
  split at h
  · rename_i y id k e el hu
    split at h
    · rename_i n own ety m cols hn hb
      cases h
      refine oneN_ok fun hc => (reads_part (h := m) hu hn (fun β ρ hr => ?_) (by omega) (Nat.le_refl _)).eff hb
      exact ⟨num (β := β) hr.1 hc.1, .inl ⟨rfl, rfl⟩⟩
    · cases h
  · rename_i y id k e el hu
    split at h
    · rename_i n own ety m cols hn hb
      cases h
      refine oneN_ok fun hc => (reads_part (l := 0) hu hn (fun β ρ hr => ?_) (Nat.zero_le _) (by omega)).eff hb
      exact ⟨.inl ⟨rfl, rfl⟩, num (β := β) hr.1 hc.1⟩
    · cases h
  · rename_i y z id k e k' f el hu
    split at h
    · rename_i n own ety m cols hn hb
      cases h
      refine oneN_ok fun hc => (reads_part hu hn (fun β ρ hr => ?_) (by omega) (by omega)).eff hb
      exact ⟨num (β := β) hr.1 hc.1, num (β := β) hr.2.1 (by omega)⟩
    · cases h
  · cases h

/-- a function of the program's own -/
abbrev CallH := FuncId → List V → S → Nat → Option (List Path)
def CallHOk (P : Program) (X : Cx) (call : CallH) : Prop :=
  ∀ f args s fresh l, call f args s fresh = some l → (∀ i, fresh ≤ i → s.blk i = none) → ∀ (c : Call) (x : Operand), c.callee = .value x → PathsOk P X (.call c) s (.val (.one (.cst (.func (.func f) #[] #[]))) :: args) l
def effs (P : Program) (call : CallH) (op : Op) (args : List V) (s : S) (fresh : Nat) : Option (List Path) := match op with
  | .move _ => (match args with | [v] => some (one1 v) | _ => none)
  | .assign _ => (match args with | [v] => some (one1 v) | _ => none)
  | .pick _ _ _ => pPick args
  | .alloc t => pAlloc P t fresh args
  | .box t _ => pBox P t fresh args
  | .build t parts => pBuild P t parts args
  | .buildSlice t len parts => pSlice1 P t len parts.toList fresh args
  | .load t _ => pLoad P t s args
  | .store t _ _ => pStore P t s args
  | .nilCheck _ => pNil args
  | .binOp o t _ _ _ => pBin P o t args
  | .unOp o _ _ => pUn o args
  | .convert a d _ => pConv P a d args
  | .fieldAddr t _ f => pFieldAddr P t f args
  | .field t _ f => pField P t f args
  | .indexAddr t _ _ => pIndexAddr P t s args
  | .index t _ _ => pIndex P t args
  | .lookup t _ _ ok => pLookup P t ok s args
  | .mapUpdate t _ _ _ => pUpdate P t s args
  | .makeMap t none => pMakeMap P t fresh args
  | .extract _ i => pExtract i args
  | .slice t _ lo hi mx => pSlice P t lo hi mx s args
  | .call c => (match c.callee with
    | .builtin .len => (match c.args.toList with | [_] => pLen P c.argTypes s args | _ => none)
    | .builtin .delete => (match c.args.toList with | [_, _] => pDelete P c.argTypes s args | _ => none)
    | .builtin .append => (match c.args.toList with | [_, _] => pAppend P c.argTypes s fresh args | _ => none)
    | .value _ => (match args with
      | .val (.one (.cst (.func (.func f) a b))) :: as => if a.size = 0 ∧ b.size = 0 then call f as s fresh else none
      | _ => none)
    | _ => none)
  | _ => none
theorem effs_ok {call : CallH} (hcall : CallHOk P X call) {op : Op} {args : List V} {s : S} {fresh : Nat} (hf : ∀ i, fresh ≤ i → s.blk i = none) {l : List Path} (h : effs P call op args s fresh = some l) : PathsOk P X op s args l := by
  have hf0 := hf fresh (Nat.le_refl _)
  unfold effs at h
  split at h
  · split at h
    · cases h; exact one1_ok (gives_move _ _)
    · cases h
  · split at h
    · cases h; exact one1_ok (gives_assign _ _)
    · cases h
  · exact pPick_ok h
  · exact pAlloc_ok hf0 h
  · exact pBox_ok hf0 h
  · exact pBuild_ok h
  · exact pSlice1_ok hf0 h
  · exact pLoad_ok h
  · exact pStore_ok h
  · exact pNil_ok h
  · exact pBin_ok h
  · exact pUn_ok h
  · exact pConv_ok h
  · exact pFieldAddr_ok h
  · exact pField_ok h
  · exact pIndexAddr_ok h
  · exact pIndex_ok h
  · exact pLookup_ok h
  · exact pUpdate_ok h
  · exact pMakeMap_ok hf0 h
  · exact pExtract_ok h
  · exact pSlice_ok h
  · rename_i c
    obtain ⟨callee, cargs, ats⟩ := c
    simp only at h
    split at h
    · split at h
      · rename_i x hx
        have e : cargs = #[x] := by apply Array.ext'; rw [hx]
        subst e; exact pLen_ok h
      · cases h
    · split at h
      · rename_i x y hx
        have e : cargs = #[x, y] := by apply Array.ext'; rw [hx]
        subst e; exact pDelete_ok h
      · cases h
    · split at h
      · rename_i x y hx
        have e : cargs = #[x, y] := by apply Array.ext'; rw [hx]
        subst e; exact pAppend_ok hf0 h
      · cases h
    · rename_i x
      split at h
      · split at h
        · rename_i f a b as hab
          have e1 : a = #[] := Array.eq_empty_of_size_eq_zero hab.1
          have e2 : b = #[] := Array.eq_empty_of_size_eq_zero hab.2
          subst e1; subst e2
          exact hcall _ _ _ _ _ h hf _ x rfl
        · cases h
      · cases h
    · cases h
  · cases h
end
end Go.Proofs.YtcecdpebapkfaaaHy
namespace Go.Proofs.YtcecdpebapkfaaaHy
open Go Go.RowKit
section
variable {P : Program} {X : Cx}

/-- a nil slice of a type of slices: the empty list for it -/
def nilL (P : Program) (t : TypeId) (l : L) : Option Ob := match l with
  | .cst (.slice none 0 0) => (match P.underlying t with
    | some (.slice e) => (match eltCols P e with | some cols => some (.vec true e 0 cols) | none => none)
    | _ => none)
  | _ => none
def isNilV (o : Ob) : Prop := ∃ e cols, o = .vec true e 0 cols
theorem nilL_ok {t : TypeId} {l : L} {o : Ob} (h : nilL P t l = some o) : l = .cst (.slice none 0 0) ∧ isNilV o := by
  unfold nilL at h
  split at h
  · split at h
    · split at h
      · cases h; exact ⟨rfl, _, _, rfl⟩
      · cases h
    · cases h
  · cases h
def nilLs (P : Program) : Nat → List TypeId → List L → List L × List Ob
  | fr, t :: ts, l :: ls => match nilL P t l with
    | some o => (.vec fr :: (nilLs P (fr + 1) ts ls).1, o :: (nilLs P (fr + 1) ts ls).2)
    | none => (l :: (nilLs P fr ts ls).1, (nilLs P fr ts ls).2)
  | _, _, ls => (ls, [])
def nilV (P : Program) (fr : Nat) (t : TypeId) (v : V) : V × List Ob := match v with
  | .val (.one l) => match nilL P t l with
    | some o => (.val (.one (.vec fr)), [o])
    | none => (v, [])
  | .val (.agg ls) => match P.cellTypes P.depth t with
    | some ts => (.val (.agg (nilLs P fr ts ls).1), (nilLs P fr ts ls).2)
    | none => (v, [])
  | v => (v, [])
def nilVs (P : Program) : Nat → List TypeId → List V → List V × List Ob
  | fr, t :: ts, v :: vs => ((nilV P fr t v).1 :: (nilVs P (fr + (nilV P fr t v).2.length) ts vs).1, (nilV P fr t v).2 ++ (nilVs P (fr + (nilV P fr t v).2.length) ts vs).2)
  | _, _, vs => (vs, [])
/-- the places of nil slices -/
def nilAt (β : Bm) (fr : Nat) (obs : List Ob) : Prop := ∀ (j : Nat) (o : Ob), obs[j]? = some o → β (fr + j) = some (.val (.slice none 0 0))
theorem nilLs_ok {β β' : Bm} (hle : β.le β') : ∀ {ls : List L} {ts : List TypeId} {fr : Nat} {xs : List Value}, nilAt β' fr (nilLs P fr ts ls).2 → All2 (L.rel β) ls xs → All2 (L.rel β') (nilLs P fr ts ls).1 xs
  | [], ts, fr, [], _, _ => by cases ts <;> trivial
  | l :: ls, [], fr, xs, _, h => by
    unfold nilLs
    exact h.mono (fun l x => L.rel_mono hle l x)
  | l :: ls, t :: ts, fr, x :: xs, hn, h => by
    cases hl : nilL P t l with
    | none =>
      simp only [nilLs, hl] at hn ⊢
      exact ⟨L.rel_mono hle _ _ h.1, nilLs_ok hle hn h.2⟩
    | some o =>
      simp only [nilLs, hl] at hn ⊢
      obtain ⟨rfl, _⟩ := nilL_ok hl
      have h1 : x = .slice none 0 0 := h.1
      refine ⟨⟨by rw [h1]; exact hn 0 o rfl, none, 0, 0, h1⟩, nilLs_ok hle (fun j o' hj => ?_) h.2⟩
      have := hn (j + 1) o' (by simpa using hj)
      rwa [show fr + (j + 1) = fr + 1 + j by omega] at this
  | [], _, _, _ :: _, _, h => h.elim
  | _ :: _, _ :: _, _, [], _, h => h.elim
theorem nilLs_isNil : ∀ {ls : List L} {ts : List TypeId} {fr : Nat}, ∀ o ∈ (nilLs P fr ts ls).2, isNilV o
  | [], ts, fr, o, h => by cases ts <;> cases h
  | l :: ls, [], fr, o, h => by cases h
  | l :: ls, t :: ts, fr, o, h => by
    cases hl : nilL P t l with
    | none => simp only [nilLs, hl] at h; exact nilLs_isNil o h
    | some o' =>
      simp only [nilLs, hl, List.mem_cons] at h
      rcases h with rfl | h
      · exact (nilL_ok hl).2
      · exact nilLs_isNil o h
theorem nilV_ok {β β' : Bm} (hle : β.le β') {v : V} {t : TypeId} {fr : Nat} {x : Value} (hn : nilAt β' fr (nilV P fr t v).2) (h : v.rel β x) : (nilV P fr t v).1.rel β' x := by
  unfold nilV at hn ⊢
  split
  · rename_i l
    cases hl : nilL P t l with
    | none => exact V.rel_mono hle _ _ h
    | some o =>
      simp only [hl] at hn
      obtain ⟨rfl, _⟩ := nilL_ok hl
      have h1 : x = .slice none 0 0 := h
      exact ⟨by rw [h1]; exact hn 0 o rfl, none, 0, 0, h1⟩
  · rename_i ls
    cases hl : P.cellTypes P.depth t with
    | none => exact V.rel_mono hle _ _ h
    | some ts =>
      simp only [hl] at hn
      obtain ⟨cs, h1, h2⟩ := h
      exact ⟨cs, h1, nilLs_ok hle hn h2⟩
  · exact V.rel_mono hle _ _ h
theorem nilV_isNil {v : V} {t : TypeId} {fr : Nat} : ∀ o ∈ (nilV P fr t v).2, isNilV o := by
  intro o h
  unfold nilV at h
  split at h
  · rename_i l
    cases hl : nilL P t l with
    | none => simp only [hl] at h; cases h
    | some o' =>
      simp only [hl, List.mem_singleton] at h
      subst h; exact (nilL_ok hl).2
  · rename_i ls
    cases hl : P.cellTypes P.depth t with
    | none => simp only [hl] at h; cases h
    | some ts => simp only [hl] at h; exact nilLs_isNil o h
  · cases h
theorem nilVs_ok {β β' : Bm} (hle : β.le β') : ∀ {vs : List V} {ts : List TypeId} {fr : Nat} {xs : List Value}, nilAt β' fr (nilVs P fr ts vs).2 → All2 (V.rel β) vs xs → All2 (V.rel β') (nilVs P fr ts vs).1 xs
  | [], ts, fr, [], _, _ => by cases ts <;> trivial
  | v :: vs, [], fr, xs, _, h => by
    unfold nilVs
    exact h.mono (fun l x => V.rel_mono hle l x)
  | v :: vs, t :: ts, fr, x :: xs, hn, h => by
    simp only [nilVs] at hn ⊢
    refine ⟨nilV_ok hle (fun j o hj => hn j o ?_) h.1, nilVs_ok hle (fun j o hj => ?_) h.2⟩
    · rw [List.getElem?_append_left (List.getElem?_eq_some_iff.1 hj).1]; exact hj
    · have := hn ((nilV P fr t v).2.length + j) o (by rw [List.getElem?_append_right (by omega)]; simpa using hj)
      rwa [← Nat.add_assoc] at this
  | [], _, _, _ :: _, _, h => h.elim
  | _ :: _, _ :: _, _, [], _, h => h.elim
theorem nilVs_isNil : ∀ {vs : List V} {ts : List TypeId} {fr : Nat}, ∀ o ∈ (nilVs P fr ts vs).2, isNilV o
  | [], ts, fr, o, h => by cases ts <;> cases h
  | v :: vs, [], fr, o, h => by cases h
  | v :: vs, t :: ts, fr, o, h => by
    simp only [nilVs, List.mem_append] at h
    rcases h with h | h
    · exact nilV_isNil o h
    · exact nilVs_isNil o h
/-- the operands with lists for nil slices -/
def nilArgs (P : Program) (op : Op) (ty : TypeId) (args : List V) (fr : Nat) : List V × List Ob := match op, args with
  | .assign _, [v] => ([(nilV P fr ty v).1], (nilV P fr ty v).2)
  | .store t _ _, [a, v] => ([a, (nilV P fr t v).1], (nilV P fr t v).2)
  | .box t _, [v] => ([(nilV P fr t v).1], (nilV P fr t v).2)
  | .call c, f :: as => (match c.callee with
    | .value _ => (f :: (nilVs P fr c.argTypes.toList as).1, (nilVs P fr c.argTypes.toList as).2)
    | _ => (f :: as, []))
  | _, args => (args, [])
theorem nilArgs_ok {β β' : Bm} (hle : β.le β') {op : Op} {ty : TypeId} {args : List V} {fr : Nat} {xs : List Value} (hn : nilAt β' fr (nilArgs P op ty args fr).2) (h : All2 (V.rel β) args xs) : All2 (V.rel β') (nilArgs P op ty args fr).1 xs := by
  unfold nilArgs at hn ⊢
  split
  · cases xs with
    | nil => exact h.elim
    | cons x xs => exact ⟨nilV_ok hle hn h.1, h.2.mono (fun l x => V.rel_mono hle l x)⟩
  · cases xs with
    | nil => exact h.elim
    | cons x xs => cases xs with
      | nil => exact h.2.elim
      | cons y xs => exact ⟨V.rel_mono hle _ _ h.1, nilV_ok hle hn h.2.1, h.2.2.mono (fun l x => V.rel_mono hle l x)⟩
  · cases xs with
    | nil => exact h.elim
    | cons x xs => exact ⟨nilV_ok hle hn h.1, h.2.mono (fun l x => V.rel_mono hle l x)⟩
  · rename_i c f as
    cases hc : c.callee with
    | value y =>
      simp only [hc] at hn ⊢
      cases xs with
      | nil => exact h.elim
      | cons x xs => exact ⟨V.rel_mono hle _ _ h.1, nilVs_ok hle hn h.2⟩
    | _ => exact h.mono (fun l x => V.rel_mono hle l x)
  · exact h.mono (fun l x => V.rel_mono hle l x)
theorem nilArgs_isNil {op : Op} {ty : TypeId} {args : List V} {fr : Nat} : ∀ o ∈ (nilArgs P op ty args fr).2, isNilV o := by
  intro o h
  unfold nilArgs at h
  split at h
  · exact nilV_isNil o h
  · exact nilV_isNil o h
  · exact nilV_isNil o h
  · rename_i c f as
    cases hc : c.callee with
    | value y => simp only [hc] at h; exact nilVs_isNil o h
    | _ => simp only [hc] at h; cases h
  · cases h
/-! ### the lists come to be -/
def nilW : Nat → List Ob → List (Nat × Option Ob)
  | _, [] => []
  | fr, o :: os => (fr, some o) :: nilW (fr + 1) os
theorem nilW_look : ∀ {obs : List Ob} {fr i : Nat}, look (nilW fr obs) i = if fr ≤ i then (obs[i - fr]?).map some else none
  | [], fr, i => by simp [nilW, look]
  | o :: os, fr, i => by
    simp only [nilW, look]
    by_cases e : fr = i
    · subst e; simp
    · have hb : Nat.beq fr i = false := by
        cases hb : Nat.beq fr i
        · rfl
        · exact absurd (Nat.eq_of_beq_eq_true hb) e
      rw [hb, nilW_look]
      by_cases h1 : fr ≤ i
      · simp only [Bool.false_eq_true, if_false]
        rw [if_pos (by omega : fr + 1 ≤ i), if_pos h1, show i - fr = (i - (fr + 1)) + 1 by omega]
        simp
      · simp only [Bool.false_eq_true, if_false]
        rw [if_neg (by omega : ¬ fr + 1 ≤ i), if_neg h1]
def addNil (s : S) (fr : Nat) (obs : List Ob) : S := ⟨s.tmp, upd s.blk (look (nilW fr obs))⟩
theorem addNil_cons (s : S) (fr : Nat) (o : Ob) (os : List Ob) : addNil ⟨s.tmp, upd s.blk (look [(fr, some o)])⟩ (fr + 1) os = addNil s fr (o :: os) := by
  unfold addNil
  congr 1
  funext i
  simp only [upd, nilW_look]
  by_cases e : fr = i
  · subst e
    rw [if_neg (by omega), if_pos (Nat.le_refl _)]
    simp [look]
  · have hb : Nat.beq fr i = false := by
      cases hb : Nat.beq fr i
      · rfl
      · exact absurd (Nat.eq_of_beq_eq_true hb) e
    by_cases h1 : fr ≤ i
    · rw [if_pos (by omega : fr + 1 ≤ i), if_pos h1, show i - fr = (i - (fr + 1)) + 1 by omega]
      simp only [List.getElem?_cons_succ, look, hb, Bool.false_eq_true, if_false]
    · rw [if_neg (by omega : ¬ fr + 1 ≤ i), if_neg h1]
      simp only [look, hb, Bool.false_eq_true, if_false]
theorem RepB.nils {D : Dx} {a : Act} {w : World} (hB0 : D.B ≤ w.heap.size) : ∀ {obs : List Ob} {fr : Nat} {s : S} {β : Bm}, RepB X D β s a w → (∀ i, fr ≤ i → i < fr + obs.length → s.blk i = none) → (∀ o ∈ obs, isNilV o) →
    ∃ β', β.le β' ∧ RepB X D β' (addNil s fr obs) a w ∧ nilAt β' fr obs
  | [], fr, s, β, h, _, _ => ⟨β, Bm.le_refl β, h, fun j o hj => by simp at hj⟩
  | o :: os, fr, s, β, h, hf, hn => by
    obtain ⟨e, cols, rfl⟩ := hn o List.mem_cons_self
    obtain ⟨hle, h1⟩ := h.fresh (id := fr) (hf fr (Nat.le_refl _) (by simp)) (o := .vec true e 0 cols) (p := .val (.slice none 0 0)) hB0 (fun b hb => by cases hb) (nil_vec _ w e cols)
    obtain ⟨β', k1, k2, k3⟩ := RepB.nils hB0 (obs := os) (fr := fr + 1) h1 (fun i a b => by
      simp only [upd_one]
      rw [if_neg (by omega)]
      exact hf i (by omega) (by simp; omega)) (fun o ho => hn o (List.mem_cons_of_mem _ ho))
    refine ⟨β', Bm.le_trans hle k1, by rw [← addNil_cons]; exact k2, fun j o' hj => ?_⟩
    cases j with
    | zero => exact k1 _ _ (by simp)
    | succ j =>
      have := k3 j o' (by simpa using hj)
      rwa [show fr + 1 + j = fr + (j + 1) by omega] at this
/-- the lists and the writes in one -/
def joinW (ns ws : List (Nat × Option Ob)) : List (Nat × Option Ob) :=
  ns.map (fun q => match look ws q.1 with | some v => (q.1, v) | none => q) ++ ws.filter (fun q => !ns.any (fun r => Nat.beq r.1 q.1))
theorem look_app {α : Type} : ∀ (a b : List (Nat × α)) (i : Nat), look (a ++ b) i = match look a i with | some v => some v | none => look b i
  | [], b, i => rfl
  | p :: r, b, i => by
    simp only [List.cons_append, look]
    split
    · rfl
    · exact look_app r b i
theorem look_map {ws : List (Nat × Option Ob)} : ∀ (ns : List (Nat × Option Ob)) (i : Nat), look (ns.map (fun q => match look ws q.1 with | some v => (q.1, v) | none => q)) i = match look ns i with
    | some o => some (match look ws i with | some v => v | none => o)
    | none => none
  | [], i => rfl
  | p :: r, i => by
    simp only [List.map_cons]
    by_cases e : p.1 = i
    · subst e
      cases h : look ws p.1 with
      | some v => simp only [look, Nat.beq_refl, if_true, h]
      | none => simp only [look, Nat.beq_refl, if_true, h]
    · have hb : Nat.beq p.1 i = false := by
        cases hb : Nat.beq p.1 i
        · rfl
        · exact absurd (Nat.eq_of_beq_eq_true hb) e
      have := look_map (ws := ws) r i
      cases h : look ws p.1 with
      | some v => simp only [look, hb, Bool.false_eq_true, if_false]; exact this
      | none => simp only [look, hb, Bool.false_eq_true, if_false]; exact this
theorem look_filter {α : Type} {ns : List (Nat × Option Ob)} : ∀ (ws : List (Nat × α)) (i : Nat), look ns i = none → look (ws.filter (fun q => !ns.any (fun r => Nat.beq r.1 q.1))) i = look ws i
  | [], i, _ => rfl
  | p :: r, i, h => by
    have ih := look_filter (ns := ns) r i h
    rw [List.filter_cons]
    by_cases e : p.1 = i
    · subst e
      have hno : ns.any (fun r => Nat.beq r.1 p.1) = false := by
        clear ih
        induction ns with
        | nil => rfl
        | cons q t iht =>
          simp only [look] at h
          split at h
          · cases h
          · rename_i hq
            simp only [List.any_cons, Bool.not_eq_true] at hq ⊢
            rw [hq, iht h]; rfl
      simp only [hno, Bool.not_false, if_true, look, Nat.beq_refl]
    · have hb : Nat.beq p.1 i = false := by
        cases hb : Nat.beq p.1 i
        · rfl
        · exact absurd (Nat.eq_of_beq_eq_true hb) e
      split
      · simp only [look, hb, Bool.false_eq_true, if_false]; exact ih
      · simp only [look, hb, Bool.false_eq_true, if_false]; exact ih
theorem joinW_upd (f : Nat → Option Ob) (ns ws : List (Nat × Option Ob)) : upd (upd f (look ns)) (look ws) = upd f (look (joinW ns ws)) := by
  funext i
  simp only [upd, joinW, look_app, look_map]
  cases h : look ns i with
  | some o =>
    simp only
    cases h2 : look ws i with
    | some v => rfl
    | none => rfl
  | none =>
    simp only [look_filter ws i h]
theorem look_key {α : Type} {ws : List (Nat × α)} {q : Nat × α} (h : q ∈ ws) : look ws q.1 ≠ none := by
  induction ws with
  | nil => cases h
  | cons p r ih =>
    simp only [look]
    split
    · simp
    · rename_i hb
      rcases List.mem_cons.1 h with rfl | h
      · rw [Nat.beq_refl] at hb; exact absurd rfl hb
      · exact ih h
/-- an operation whose nil slices are told as lists -/
theorem eff_nils {op : Op} {ty : TypeId} {s : S} {args : List V} {fr : Nat} (hf : ∀ i, fr ≤ i → s.blk i = none) {e : Eff} (h : EffOk P X op (addNil s fr (nilArgs P op ty args fr).2) (nilArgs P op ty args fr).1 e) :
    EffOk P X op s args ⟨e.v, e.rd, joinW (nilW fr (nilArgs P op ty args fr).2) e.wr⟩ := by
  intro o ho hd D s2 a w β hc hb hB hargs hrd hwr K Q hK
  have hkey : ∀ i, look (joinW (nilW fr (nilArgs P op ty args fr).2) e.wr) i ≠ none → s2.blk i = s.blk i := fun i hi => by
    cases hl : look (joinW (nilW fr (nilArgs P op ty args fr).2) e.wr) i with
    | none => exact absurd hl hi
    | some v =>
      obtain ⟨q, hq, rfl, _⟩ : ∃ q ∈ joinW (nilW fr (nilArgs P op ty args fr).2) e.wr, q.1 = i ∧ q.2 = v := by
        clear hi hK hwr
        generalize joinW (nilW fr (nilArgs P op ty args fr).2) e.wr = l at hl
        induction l with
        | nil => cases hl
        | cons p r ih =>
          simp only [look] at hl
          split at hl
          · rename_i hb2; cases hl; exact ⟨p, List.mem_cons_self, Nat.eq_of_beq_eq_true hb2, rfl⟩
          · obtain ⟨q, k1, k2⟩ := ih hl; exact ⟨q, List.mem_cons_of_mem _ k1, k2⟩
      exact hwr q hq
  have hjn : ∀ i, look (nilW fr (nilArgs P op ty args fr).2) i ≠ none → look (joinW (nilW fr (nilArgs P op ty args fr).2) e.wr) i ≠ none := fun i hi => by
    simp only [joinW, look_app, look_map]
    cases h2 : look (nilW fr (nilArgs P op ty args fr).2) i with
    | none => exact absurd h2 hi
    | some v => simp
  have hjw : ∀ i, look e.wr i ≠ none → look (joinW (nilW fr (nilArgs P op ty args fr).2) e.wr) i ≠ none := fun i hi => by
    simp only [joinW, look_app, look_map]
    cases h2 : look (nilW fr (nilArgs P op ty args fr).2) i with
    | none => simp only [look_filter e.wr i h2]; exact hi
    | some v => simp
  have hagree : ∀ i, s2.blk i = s.blk i → (addNil s2 fr (nilArgs P op ty args fr).2).blk i = (addNil s fr (nilArgs P op ty args fr).2).blk i := fun i hi => by
    simp only [addNil, upd, hi]
  obtain ⟨β', k1, k2, k3⟩ := RepB.nils (Nat.le_trans hc.base hc.size) (obs := (nilArgs P op ty args fr).2) (fr := fr) hB (fun i h1 h2 => by
    rw [hkey i (hjn i ?_)]
    · exact hf i h1
    · rw [nilW_look, if_pos h1, List.getElem?_eq_getElem (by omega)]; simp) nilArgs_isNil
  refine h o ho hd D (addNil s2 fr (nilArgs P op ty args fr).2) a w β' hc (Bm.le_trans hb k1) k2 (nilArgs_ok k1 k3 hargs) (fun id hid => hagree id (hrd id hid)) (fun q hq => hagree q.1 (hkey q.1 (hjw q.1 (look_key hq)))) K Q (fun a' w' hR => hK a' w' ?_)
  have e1 : upd (addNil s2 fr (nilArgs P op ty args fr).2).blk (look e.wr) = upd s2.blk (look (joinW (nilW fr (nilArgs P op ty args fr).2) e.wr)) := joinW_upd s2.blk _ _
  rw [e1] at hR
  exact hR
/-! ### memory that is laid out with nil slices in it -/
def nilSegs (P : Program) : Nat → List TypeId → List Seg → List Seg × List Ob
  | _, _, [] => ([], [])
  | fr, ts, .cells ls :: r => (.cells (nilLs P fr ts ls).1 :: (nilSegs P (fr + (nilLs P fr ts ls).2.length) (ts.drop ls.length) r).1, (nilLs P fr ts ls).2 ++ (nilSegs P (fr + (nilLs P fr ts ls).2.length) (ts.drop ls.length) r).2)
  | fr, ts, .arr n cols :: r => (.arr n cols :: (nilSegs P fr (ts.drop (n * cols.length)) r).1, (nilSegs P fr (ts.drop (n * cols.length)) r).2)
theorem nilLs_len : ∀ {ls : List L} {ts : List TypeId} {fr : Nat}, (nilLs P fr ts ls).1.length = ls.length
  | [], ts, fr => by cases ts <;> rfl
  | l :: ls, [], fr => rfl
  | l :: ls, t :: ts, fr => by
    cases hl : nilL P t l with
    | none => simp only [nilLs, hl, List.length_cons, nilLs_len]
    | some o => simp only [nilLs, hl, List.length_cons, nilLs_len]
theorem nilLs_get {β β' : Bm} (hle : β.le β') : ∀ {ls : List L} {ts : List TypeId} {fr : Nat}, nilAt β' fr (nilLs P fr ts ls).2 → ∀ (j : Nat) (l' : L), (nilLs P fr ts ls).1[j]? = some l' → ∃ l, ls[j]? = some l ∧ ∀ x, l.rel β x → l'.rel β' x
  | [], ts, fr, _, j, l', h => by cases ts <;> simp [nilLs] at h
  | l :: ls, [], fr, _, j, l', h => ⟨l', by simpa [nilLs] using h, fun x => L.rel_mono hle _ _⟩
  | l :: ls, t :: ts, fr, hn, j, l', h => by
    cases hl : nilL P t l with
    | none =>
      simp only [nilLs, hl] at hn h
      cases j with
      | zero => simp at h; subst h; exact ⟨l, rfl, fun x => L.rel_mono hle _ _⟩
      | succ j => simpa using nilLs_get hle hn j l' (by simpa using h)
    | some o =>
      simp only [nilLs, hl] at hn h
      obtain ⟨rfl, _⟩ := nilL_ok hl
      cases j with
      | zero =>
        simp at h; subst h
        refine ⟨_, rfl, fun x hx => ?_⟩
        have hx : x = .slice none 0 0 := hx
        exact ⟨by rw [hx]; exact hn 0 o rfl, none, 0, 0, hx⟩
      | succ j =>
        have h2 : nilAt β' (fr + 1) (nilLs P (fr + 1) ts ls).2 := fun i o' hi => by
          have := hn (i + 1) o' (by simpa using hi)
          rwa [show fr + (i + 1) = fr + 1 + i by omega] at this
        simpa using nilLs_get hle h2 j l' (by simpa using h)
theorem nilSegs_ok {β β' : Bm} (hle : β.le β') {w : World} {b : Nat} : ∀ {segs : List Seg} {ts : List TypeId} {fr off : Nat}, nilAt β' fr (nilSegs P fr ts segs).2 → segsOk β w b off segs → segsOk β' w b off (nilSegs P fr ts segs).1
  | [], _, _, _, _, _ => trivial
  | .cells ls :: r, ts, fr, off, hn, ⟨h1, h2⟩ => by
    simp only [nilSegs] at hn ⊢
    refine ⟨fun j l' hj => ?_, ?_⟩
    · obtain ⟨l, k1, k2⟩ := nilLs_get hle (fun j o hj => hn j o (by rw [List.getElem?_append_left (List.getElem?_eq_some_iff.1 hj).1]; exact hj)) j l' hj
      obtain ⟨x, q1, q2⟩ := h1 j l k1
      exact ⟨x, q1, k2 x q2⟩
    · rw [nilLs_len]
      refine nilSegs_ok hle (fun j o hj => ?_) h2
      have := hn ((nilLs P fr ts ls).2.length + j) o (by rw [List.getElem?_append_right (by omega)]; simpa using hj)
      rwa [← Nat.add_assoc] at this
  | .arr n cols :: r, ts, fr, off, hn, ⟨h1, h2⟩ => by
    simp only [nilSegs] at hn ⊢
    exact ⟨h1, nilSegs_ok hle hn h2⟩
theorem nilSegs_isNil : ∀ {segs : List Seg} {ts : List TypeId} {fr : Nat}, ∀ o ∈ (nilSegs P fr ts segs).2, isNilV o
  | [], _, _, o, h => by cases h
  | .cells ls :: r, ts, fr, o, h => by
    simp only [nilSegs, List.mem_append] at h
    rcases h with h | h
    · exact nilLs_isNil o h
    · exact nilSegs_isNil o h
  | .arr n cols :: r, ts, fr, o, h => nilSegs_isNil (segs := r) o h
/-- an object that is told otherwise -/
theorem RepB.retell {D : Dx} {β : Bm} {s : S} {a : Act} {w : World} (h : RepB X D β s a w) {id : Nat} {o o' : Ob} (hs : s.blk id = some o) (hok : ∀ p, β id = some p → o.ok β w p → o'.ok β w p) (how : o'.own = o.own) (hg : o ≠ .gone) :
    RepB X D β ⟨s.tmp, upd s.blk (look [(id, some o')])⟩ a w := by
  refine { h with mem := fun i q hq => ?_, dom := fun i q hq => ?_, inj := fun i i' q q' r r' b hq hq' how2 hng hr hr' hb hb' => ?_ }
  · simp only [upd_one] at hq
    split at hq
    · rename_i e; subst e; cases hq
      obtain ⟨p, k1, k2, k3⟩ := h.mem i o hs
      exact ⟨p, k1, hok p k1 k2, fun hh => k3 (by rw [← how]; exact hh)⟩
    · exact h.mem i q hq
  · simp only [upd_one]
    split
    · exact ⟨_, rfl⟩
    · exact h.dom i q hq
  · simp only [upd_one] at hq hq'
    have key : ∀ j u, (if j = id then some o' else s.blk j) = some u → ∃ u', s.blk j = some u' ∧ (u ≠ .gone → u' ≠ .gone) ∧ u.own = u'.own := by
      intro j u hu
      split at hu
      · rename_i e; subst e; cases hu
        exact ⟨o, hs, fun _ => hg, how⟩
      · exact ⟨u, hu, fun h => h, rfl⟩
    obtain ⟨u1, a1, _, a3⟩ := key i q hq
    obtain ⟨u2, b1, b2, _⟩ := key i' q' hq'
    exact h.inj i i' u1 u2 r r' b a1 b1 (by rw [← a3]; exact how2) (b2 hng) hr hr' hb hb'
def nilAlloc (P : Program) (t : TypeId) (fr : Nat) (e : Eff) : Eff := match e.wr, P.cellTypes P.depth t with
  | [(id, some (.mem true segs))], some ts => if Nat.beq id fr && !(nilSegs P (fr + 1) ts segs).2.isEmpty then ⟨e.v, e.rd, (id, some (.mem true (nilSegs P (fr + 1) ts segs).1)) :: nilW (fr + 1) (nilSegs P (fr + 1) ts segs).2⟩ else e
  | _, _ => e
theorem nilAlloc_ok {op : Op} {s : S} {args : List V} {fr : Nat} (hf : ∀ i, fr ≤ i → s.blk i = none) {t : TypeId} {e : Eff} (h : EffOk P X op s args e) : EffOk P X op s args (nilAlloc P t fr e) := by
  unfold nilAlloc
  split
  · rename_i id segs ts hwr0 hts
    split
    · rename_i hc
      simp only [Bool.and_eq_true] at hc
      have hid := Nat.eq_of_beq_eq_true hc.1
      subst hid
      intro o ho hd D s2 a w β hc hb hB hargs hrd hwr K Q hK
      refine h o ho hd D s2 a w β hc hb hB hargs hrd (fun q hq => ?_) K Q (fun a' w' hR => hK a' w' ?_)
      · rw [hwr0, List.mem_singleton] at hq
        subst hq
        exact hwr (id, some (.mem true (nilSegs P (id + 1) ts segs).1)) (by simp)
      · rw [hwr0] at hR
        obtain ⟨hc', β1, hb1, hB1⟩ := hR
        obtain ⟨β2, k1, k2, k3⟩ := RepB.nils (Nat.le_trans hc'.base hc'.size) (obs := (nilSegs P (id + 1) ts segs).2) (fr := id + 1) hB1 (fun i h1 h2 => by
          simp only [upd_one]
          rw [if_neg (by omega)]
          have := hwr (i, look (nilW (id + 1) (nilSegs P (id + 1) ts segs).2) i |>.getD none) ?_
          · rw [this]; exact hf i (by omega)
          · refine List.mem_cons_of_mem _ ?_
            have : ∀ (obs : List Ob) (fr : Nat), fr ≤ i → i < fr + obs.length → (i, (look (nilW fr obs) i).getD none) ∈ nilW fr obs := by
              intro obs
              induction obs with
              | nil => intro fr a b; simp at b; omega
              | cons x xs ih =>
                intro fr a b
                simp only [nilW, look]
                by_cases e : fr = i
                · subst e; simp
                · have hb : Nat.beq fr i = false := by
                    cases hb : Nat.beq fr i
                    · rfl
                    · exact absurd (Nat.eq_of_beq_eq_true hb) e
                  rw [hb]
                  exact List.mem_cons_of_mem _ (ih (fr + 1) (by omega) (by simp at b; omega))
            exact this _ _ h1 h2) nilSegs_isNil
        have hbk : (addNil ⟨upd s2.tmp (look (wrT o.dst e.v)), upd s2.blk (look [(id, some (.mem true segs))])⟩ (id + 1) (nilSegs P (id + 1) ts segs).2).blk id = some (.mem true segs) := by
          simp only [addNil, upd, nilW_look]
          rw [if_neg (by omega)]
          simp [look]
        have k4 := k2.retell (o' := .mem true (nilSegs P (id + 1) ts segs).1) hbk (fun p _ hp => by
          cases p with
          | val _ => exact hp.elim
          | blk b => exact ⟨hp.1, nilSegs_ok (Bm.le_refl _) k3 hp.2.1, hp.2.2⟩) rfl (fun e => by cases e)
        refine ⟨hc', β2, Bm.le_trans hb1 k1, ?_⟩
        have e1 : (⟨(addNil ⟨upd s2.tmp (look (wrT o.dst e.v)), upd s2.blk (look [(id, some (.mem true segs))])⟩ (id + 1) (nilSegs P (id + 1) ts segs).2).tmp, upd (addNil ⟨upd s2.tmp (look (wrT o.dst e.v)), upd s2.blk (look [(id, some (.mem true segs))])⟩ (id + 1) (nilSegs P (id + 1) ts segs).2).blk (look [(id, some (.mem true (nilSegs P (id + 1) ts segs).1))])⟩ : S) =
            ⟨upd s2.tmp (look (wrT o.dst e.v)), upd s2.blk (look ((id, some (.mem true (nilSegs P (id + 1) ts segs).1)) :: nilW (id + 1) (nilSegs P (id + 1) ts segs).2))⟩ := by
          simp only [addNil]
          congr 1
          funext i
          simp only [upd, look]
          by_cases e : id = i
          · subst e; simp
          · have hb : Nat.beq id i = false := by
              cases hb : Nat.beq id i
              · rfl
              · exact absurd (Nat.eq_of_beq_eq_true hb) e
            simp only [hb, Bool.false_eq_true, if_false]
        rw [← e1]; exact k4
    · exact h
  · exact h
def nilPath (P : Program) (op : Op) (fr : Nat) (p : Path) : Path := match op with
  | .alloc t => ⟨p.g, p.need, nilAlloc P t fr p.e⟩
  | _ => p
theorem nilPath_ok {op : Op} {s : S} {args : List V} {fr : Nat} (hf : ∀ i, fr ≤ i → s.blk i = none) {p : Path} (h : EffOk P X op s args p.e) : EffOk P X op s args (nilPath P op fr p).e := by
  unfold nilPath
  split
  · exact nilAlloc_ok hf h
  · exact h
/-- the ways of an operation, its nil slices told as lists -/
def effsN (P : Program) (call : CallH) (op : Op) (ty : TypeId) (args : List V) (s : S) (fr : Nat) : Option (List Path) :=
  match (nilArgs P op ty args fr).2 with
  | [] => (match effs P call op args s fr with
    | some l => some (l.map (nilPath P op fr))
    | none => none)
  | _ :: _ => match effs P call op (nilArgs P op ty args fr).1 (addNil s fr (nilArgs P op ty args fr).2) (fr + (nilArgs P op ty args fr).2.length) with
    | some l => some (l.map fun p => ⟨p.g, p.need, ⟨p.e.v, p.e.rd, joinW (nilW fr (nilArgs P op ty args fr).2) p.e.wr⟩⟩)
    | none => none
theorem effsN_ok {call : CallH} (hcall : CallHOk P X call) {op : Op} {ty : TypeId} {args : List V} {s : S} {fr : Nat} (hf : ∀ i, fr ≤ i → s.blk i = none) {l : List Path} (h : effsN P call op ty args s fr = some l) : PathsOk P X op s args l := by
  unfold effsN at h
  split at h
  · split at h
    · rename_i l0 h0
      cases h
      obtain ⟨p, k1, k2, k3⟩ := effs_ok (X := X) hcall hf h0
      refine ⟨_, List.mem_map.2 ⟨p, k1, rfl⟩, ?_, fun hn => ?_⟩
      · unfold nilPath; split <;> exact k2
      · exact nilPath_ok hf (k3 (by unfold nilPath at hn; split at hn <;> exact hn))
    · cases h
  · rename_i hne
    split at h
    · rename_i l0 h0
      cases h
      have hf2 : ∀ i, fr + (nilArgs P op ty args fr).2.length ≤ i → (addNil s fr (nilArgs P op ty args fr).2).blk i = none := fun i hi => by
        simp only [addNil, upd, nilW_look]
        rw [if_pos (by omega), List.getElem?_eq_none (by omega)]
        exact hf i (by omega)
      obtain ⟨p, k1, k2, k3⟩ := effs_ok (X := X) hcall hf2 h0
      exact ⟨_, List.mem_map.2 ⟨p, k1, rfl⟩, k2, fun hn => eff_nils hf (k3 hn)⟩
    · cases h
/-- values that are there if so, taken as there -/
def optP : Option Bool → Option Prop
  | none => none
  | some c => some (c = true)
def bareAll : List V → Option Prop
  | [] => none
  | v :: vs => and2 (optP (bare v).2) (bareAll vs)
theorem bareAll_ok : ∀ {vs : List V}, holdsP (bareAll vs) → ∀ {β : Bm} {xs : List Value}, All2 (V.rel β) vs xs → All2 (V.rel β) (vs.map fun v => (bare v).1) xs
  | [], _, β, [], _ => trivial
  | v :: vs, h, β, x :: xs, hx => by
    obtain ⟨h1, h2⟩ := and2_ok h
    refine ⟨bare_ok hx.1 (fun c hc => ?_), bareAll_ok h2 hx.2⟩
    rw [hc] at h1; exact h1
  | [], _, _, _ :: _, h => h.elim
  | _ :: _, _, _, [], h => h.elim
def effsB (P : Program) (call : CallH) (op : Op) (ty : TypeId) (args : List V) (s : S) (fr : Nat) : Option (List Path) :=
  match effsN P call op ty args s fr with
  | some l => some l
  | none => match args.any (fun v => (bare v).2.isSome) with
    | true => (match effsN P call op ty (args.map fun v => (bare v).1) s fr with
      | some l => some (l.map fun p => ⟨p.g, and2 (bareAll args) p.need, p.e⟩)
      | none => none)
    | false => none
theorem effsB_ok {call : CallH} (hcall : CallHOk P X call) {op : Op} {ty : TypeId} {args : List V} {s : S} {fr : Nat} (hf : ∀ i, fr ≤ i → s.blk i = none) {l : List Path} (h : effsB P call op ty args s fr = some l) : PathsOk P X op s args l := by
  unfold effsB at h
  split at h
  · rename_i l0 h0; cases h; exact effsN_ok hcall hf h0
  · split at h
    · split at h
      · rename_i l0 h0
        cases h
        obtain ⟨p, k1, k2, k3⟩ := effsN_ok (X := X) hcall hf h0
        refine ⟨_, List.mem_map.2 ⟨p, k1, rfl⟩, k2, fun hn => ?_⟩
        obtain ⟨n1, n2⟩ := and2_ok hn
        intro o ho hd D s2 a w β hc hb hB hargs hrd hwr K Q hK
        exact k3 n2 o ho hd D s2 a w β hc hb hB (bareAll_ok n1 hargs) hrd hwr K Q hK
      · cases h
    · cases h
end
end Go.Proofs.YtcecdpebapkfaaaHy
namespace Go.Proofs.YtcecdpebapkfaaaHy
open Go Go.RowKit Go.ChangeMaps
section
variable {P : Program} {X : Cx}

/-- ways of which a run picks one: a datum that it brings, and a way -/
structure DP where
  α : Type
  f : α → List Path
def DynOk (P : Program) (X : Cx) (op : Op) (s : S) (args : List V) (d : DP) : Prop :=
  ∀ (o : Oper), o.op = op → (∀ t, o.dst = some t → t < X.n) → ∀ D a w β, Chg D w → D.b0.le β → RepB X D β s a w → All2 (V.rel β) args (op.operands.toList.map a.eval) →
    ∃ x, ∃ p ∈ d.f x, holdsP p.g ∧ (holdsP p.need → ∀ (K : Act → World → Prop) (Q : Exit → Act → World → Prop), (∀ a' w', Rep X D ⟨upd s.tmp (look (wrT o.dst p.e.v)), upd s.blk (look p.e.wr)⟩ a' w' → K a' w') → o.wp P a w K Q)

/-- how a map's entries were laid -/
theorem laid_of {key : IntKind} {agg : Bool} {has : Int → Bool} {cols : List KCol} {es : Array MapEntry} {clock : Nat} (h : mapOk key agg has cols es clock) : ∃ g : Gh, g.clock = clock ∧ (∀ k, g.dom k = has k) ∧ laidOk key has es g := by
  classical
  let born : Int → Nat := fun k => if hh : ∃ e ∈ es.toList, e.key = .int key k then (Classical.choose hh).born else 0
  have hb : ∀ e ∈ es.toList, ∀ k : Int, e.key = .int key k → e.born = born k := by
    intro e he k hk
    have hh : ∃ e ∈ es.toList, e.key = .int key k := ⟨e, he, hk⟩
    have h1 := Classical.choose_spec hh
    obtain ⟨i, hi⟩ := List.getElem?_of_mem he
    obtain ⟨j, hj⟩ := List.getElem?_of_mem h1.1
    have := nodup_get h.once hi hj (by rw [hk, h1.2])
    subst this
    rw [hi] at hj
    simp only [born, dif_pos hh]
    cases hj; rfl
  refine ⟨⟨has, born, clock⟩, rfl, fun k => rfl, hb, fun k hk => hk, fun k k' hk hk' he => ?_⟩
  obtain ⟨e, he1, he2⟩ := h.all k hk
  obtain ⟨e', he1', he2'⟩ := h.all k' hk'
  have e0 : e.born = e'.born := by rw [hb e he1 k he2, hb e' he1' k' he2']; exact he
  have f1 := find_born e es.toList h.apart he1
  have f2 := find_born e' es.toList h.apart he1'
  rw [e0, f2] at f1
  cases f1
  rw [he2] at he2'
  injection he2'
def dRange (P : Program) (t : TypeId) (s : S) (fr : Nat) (args : List V) : Option DP := match args, P.underlying t with
  | [.val (.one (.map id))], some (.map _ _) => (match s.blk id with
    | some (.mp own key agg has cols) => if Nat.blt id fr then some ⟨Gh, fun g => [⟨some (∀ k, g.dom k = has k), none, ⟨.val (.one (.ptr fr 0)), [id], [(id, some (.mpl own key agg has cols g)), (fr, some (.itr true id g (fun _ => false) none))]⟩⟩]⟩ else none
    | _ => none)
  | _, _ => none
theorem dRange_ok {t : TypeId} {x : Operand} {s : S} {fr : Nat} (hf : s.blk fr = none) {args : List V} {d : DP} (h : dRange P t s fr args = some d) : DynOk P X (.range t x) s args d := by
  unfold dRange at h
  split at h
  · rename_i id kt et hu
    split at h
    · rename_i own key agg has cols hb
      split at h
      · rename_i hlt
        have hlt : id < fr := by simpa using hlt
        cases h
        intro o ho hd D a w β hc hb0 hB hargs
        obtain ⟨p, k1, k2, k3⟩ := hB.mem id _ hb
        cases p with
        | val _ => exact k2.elim
        | blk b =>
          obtain ⟨r1, es, clock, r2, r3⟩ := k2
          obtain ⟨g, g1, g2, g3⟩ := laid_of r3
          refine ⟨g, _, List.mem_singleton.2 rfl, g2, fun _ K Q hK => ?_⟩
          obtain ⟨⟨b', hx1, hx2⟩, _⟩ := hargs
          rw [k1] at hx1; cases hx1
          obtain ⟨dst, op, type, pos, after, guard⟩ := o; simp only at ho; subst ho
          have hrun : (execOp a.eval ⟨dst, .range t x, type, pos, after, guard⟩).run P w = .ok (.value (.pointer (some ⟨w.heap.size, 0, none⟩))) (w.alloc (.mapIter (some b) clock #[] clock)) := by
            have hx2 : a.eval x = .map (some b) := hx2
            simp only [execOp, hx2, Sem.run_bind, run_range_map w t kt et b es clock hu r2, Result.andThen_ok]; rfl
          unfold Oper.wp
          rw [hrun]
          have hbase := Nat.le_trans hc.base hc.size
          have hsz : (w.alloc (.mapIter (some b) clock #[] clock)).heap.size = w.heap.size + 1 := by simp
          have hk : ∀ k, k < w.heap.size → (w.alloc (.mapIter (some b) clock #[] clock)).heap[k]? = w.heap[k]? := fun k hk => Below.heap_alloc _ _ _ hk
          have hB1 := hB.later hbase (by omega) hk
          have hB2 := hB1.retell (o' := .mpl own key agg has cols g) hb (fun p hp _ => by
            rw [k1] at hp; cases hp
            exact ⟨by omega, es, by rw [hk b r1, r2, g1], by rw [g1]; exact r3, g3⟩) rfl (fun e => by cases e)
          have hne : fr ≠ id := by omega
          obtain ⟨hle, hB3⟩ := hB2.fresh (id := fr) (by simp only [upd_one, if_neg hne]; exact hf) (o := .itr true id g (fun _ => false) none) (p := .blk w.heap.size) (by omega) (fun b2 hb2 => by
            cases hb2
            refine ⟨.inl hbase, fun i q r hi hg hr hfoot => ?_⟩
            simp only [upd_one] at hi
            split at hi
            · rename_i e
              subst e
              rw [k1] at hr; cases hr
              cases hfoot
              omega
            · obtain ⟨p', a1, a2, _⟩ := hB.mem i q hi
              rw [hr] at a1; cases a1
              have := Ob.foot_lt a2 hg _ hfoot
              omega) ⟨by omega, b, #[], by simp only [if_neg hne.symm]; exact k1, by rw [g1]; exact heap_alloc_new _ _, fun k _ => by simp, fun k hk => by cases hk⟩
          refine hK _ _ ⟨hc.later rfl rfl rfl (by omega) (fun k hk2 _ => hk k (by omega)), _, Bm.le_trans hb0 hle, ?_⟩
          have e1 := look_two s.blk id fr (some (.mpl own key agg has cols g)) (some (.itr true id g (fun _ => false) none)) hne.symm
          rw [e1]
          exact hB3.put hd (v := .val (.one (.ptr fr 0))) ⟨w.heap.size, by simp, rfl⟩
      · cases h
    · cases h
  · cases h

/-- the next entry, or that there is none left -/
def dNext (s : S) (args : List V) : Option DP := match args with
  | [.val (.one (.ptr rid 0))] => (match s.blk rid with
    | some (.itr true mid g seen _) => (match s.blk mid with
      | some (.mpl own key agg has cols g') => if Nat.beq rid mid then none else some ⟨Int, fun k => match kW agg cols k with
        | some wv => [⟨some (∀ j, has j = true → seen j = true), some (g = g'), ⟨.tup [.one (.bool (.lit false))], [rid, mid], [(mid, some (.mp own key agg has cols)), (rid, some .gone)]⟩⟩,
            ⟨some (has k = true ∧ seen k = false), some (g = g'), ⟨.tup [.one (.bool (.lit true)), .one (.int key (.tm k)), wv], [rid, mid], [(rid, some (.itr true mid g (putK seen k true) (some k)))]⟩⟩]
        | none => [⟨none, some False, ⟨.tup [], [], []⟩⟩]⟩
      | _ => none)
    | _ => none)
  | _ => none
theorem dNext_ok {x : Operand} {s : S} {args : List V} {d : DP} (h : dNext s args = some d) : DynOk P X (.next x false) s args d := by
  unfold dNext at h
  split at h
  · rename_i rid
    split at h
    · rename_i mid g seen cur hb
      split at h
      · rename_i own key agg has cols g' hm
        split at h
        · cases h
        · rename_i hne
          have hne : rid ≠ mid := fun e => by rw [e, Nat.beq_refl] at hne; exact hne rfl
          cases h
          intro o ho hd D a w β hc hb0 hB hargs
          classical
          by_cases hgg : g = g'
          · subst hgg
            obtain ⟨p, k1, k2, k3⟩ := hB.mem rid _ hb
            obtain ⟨q, l1, l2, l3⟩ := hB.mem mid _ hm
            cases p with
            | val _ => exact k2.elim
            | blk r =>
              cases q with
              | val _ => exact l2.elim
              | blk b =>
                obtain ⟨i1, bm, sn, i2, i3, i4, i5⟩ := k2
                rw [l1] at i2; cases i2
                obtain ⟨m1, es, m2, m3, m4⟩ := l2
                obtain ⟨⟨b', hx1, hx2⟩, _⟩ := hargs
                rw [k1] at hx1; cases hx1
                have hx2 : a.eval x = .pointer (some ⟨r, 0, none⟩) := hx2
                have hbase := Nat.le_trans hc.base hc.size
                obtain ⟨dst, op, type, pos, after, guard⟩ := o; simp only at ho; subst ho
                rcases run_next_at (P := P) w type r b g.clock g.clock sn es g.clock i3 m2 m3.born (Nat.le_refl _) with ⟨n1, n2⟩ | ⟨e, e1, w1, e2, e3⟩
                · -- none left
                  refine ⟨0, ?_⟩
                  simp only
                  cases hkw : kW agg cols 0 with
                  | none => exact ⟨_, List.mem_singleton.2 rfl, trivial, fun h => h.elim⟩
                  | some wv =>
                    refine ⟨_, List.mem_cons_self, fun j hj => ?_, fun _ K Q hK => ?_⟩
                    · obtain ⟨e, he, hek⟩ := m3.all j hj
                      rw [i4 j (m4.dom j hj), ← m4.at_ e he j hek]
                      have hem : (leftOf es sn) = #[] := Array.eq_empty_of_size_eq_zero n1
                      unfold leftOf at hem
                      rw [Array.filter_eq_empty_iff] at hem
                      have := hem e (by simpa using he)
                      simpa using this
                    · have hrun : (execOp a.eval ⟨dst, .next x false, type, pos, after, guard⟩).run P w = .ok (.value (.tuple #[.bool false])) w := by
                        simp only [execOp, hx2, Sem.run_bind, n2, Result.andThen_ok]; rfl
                      unfold Oper.wp
                      rw [hrun]
                      have hB1 := hB.retell (o' := .mp own key agg has cols) hm (fun p hp _ => by
                        rw [l1] at hp; cases hp
                        exact ⟨m1, es, _, m2, m3⟩) rfl (fun e => by cases e)
                      have hB2 := hB1.drop (id := rid) (o := .itr true mid g seen cur) (by simp only [upd_one, if_neg hne]; exact hb)
                      refine hK _ _ ⟨hc, β, hb0, ?_⟩
                      have e1 := look_two s.blk mid rid (some (.mp own key agg has cols)) (some .gone) hne.symm
                      rw [e1]
                      exact hB2.put hd (v := .tup [.one (.bool (.lit false))]) ⟨_, rfl, ⟨rfl, trivial⟩⟩
                · -- one more
                  obtain ⟨k, f1, f2, f3⟩ := m3.keys e (by unfold leftOf at e1; simp at e1; simpa using e1.1)
                  have hes : e ∈ es.toList := by unfold leftOf at e1; simp at e1; simpa using e1.1
                  have hsn : e.born ∉ sn.toList := by unfold leftOf at e1; simp at e1; simpa using e1.2
                  refine ⟨k, ?_⟩
                  simp only
                  cases hkw : kW agg cols k with
                  | none => exact ⟨_, List.mem_singleton.2 rfl, trivial, fun h => h.elim⟩
                  | some wv =>
                    refine ⟨_, List.mem_cons_of_mem _ (List.mem_singleton.2 rfl), ⟨f2, ?_⟩, fun _ K Q hK => ?_⟩
                    · cases hs : seen k with
                      | false => rfl
                      | true =>
                        have := (i4 k (m4.dom k f2)).1 hs
                        rw [← m4.at_ e hes k f1] at this
                        exact absurd this hsn
                    · have hrun : (execOp a.eval ⟨dst, .next x false, type, pos, after, guard⟩).run P w = .ok (.value (.tuple #[.bool true, e.key, e.val])) (setBlock w1 r (.mapIter (some b) g.clock (sn.push e.born) g.clock)) := by
                        simp only [execOp, hx2, Sem.run_bind, e3, Result.andThen_ok]; rfl
                      unfold Oper.wp
                      rw [hrun]
                      have hw1 : w1.heap = w.heap ∧ w1.os = w.os ∧ w1.tape = w.tape ∧ w1.output = w.output := by rcases e2 with rfl | rfl <;> exact ⟨rfl, rfl, rfl, rfl⟩
                      have hheap : (setBlock w1 r (.mapIter (some b) g.clock (sn.push e.born) g.clock)).heap = w.heap.setIfInBounds r (.mapIter (some b) g.clock (sn.push e.born) g.clock) := by
                        unfold setBlock; rw [hw1.1]
                      have hoth : ∀ k, r ≠ k → (setBlock w1 r (.mapIter (some b) g.clock (sn.push e.born) g.clock)).heap[k]? = w.heap[k]? := fun k hk => by
                        rw [hheap, Array.getElem?_setIfInBounds_ne hk]
                      have hsz : (setBlock w1 r (.mapIter (some b) g.clock (sn.push e.born) g.clock)).heap.size = w.heap.size := by rw [hheap, Array.size_setIfInBounds]
                      have hBw := hB.write (w' := setBlock w1 r (.mapIter (some b) g.clock (sn.push e.born) g.clock)) (o' := .itr true mid g (putK seen k true) (some k)) hb rfl rfl k1 (by omega)
                        (fun j _ hj => hoth j (fun e => hj (by rw [e]; rfl))) hbase
                        ⟨by omega, b, sn.push e.born, l1, by rw [hheap]; simp [i1], fun j hj => ?_, fun j hj => ?_⟩
                      · refine hK _ _ ⟨hc.later hw1.2.1 hw1.2.2.1 hw1.2.2.2 (by omega) (fun j hj hF => hoth j (fun e => ?_)), β, hb0, ?_⟩
                        · subst e
                          rcases k3 rfl r rfl with h1 | h1
                          · omega
                          · exact hF h1
                        · refine hBw.put hd (v := .tup [.one (.bool (.lit true)), .one (.int key (.tm k)), wv]) ⟨_, rfl, rfl, ?_, kW_ok hkw f3 β, trivial⟩
                          show e.key = _
                          rw [f1]; rfl
                      · rw [Array.toList_push, List.mem_append, List.mem_singleton, ← i4 j hj]
                        by_cases hjk : j = k
                        · subst hjk
                          simp only [putK, if_true, true_iff]
                          exact .inr (m4.at_ e hes j f1).symm
                        · simp only [putK, if_neg hjk]
                          constructor
                          · intro h; exact .inl h
                          · rintro (h | h)
                            · exact h
                            · exact absurd (m4.inj j k hj (m4.dom k f2) (by rw [h, m4.at_ e hes k f1])) hjk
                      · cases hj
                        exact ⟨m4.dom k f2, sn, by rw [m4.at_ e hes k f1]⟩
          · by_cases hall : ∀ j, has j = true → seen j = true
            · refine ⟨0, ?_⟩
              simp only
              cases hkw : kW agg cols 0 with
              | none => exact ⟨_, List.mem_singleton.2 rfl, trivial, fun h => h.elim⟩
              | some wv => exact ⟨_, List.mem_cons_self, hall, fun h => absurd h hgg⟩
            · obtain ⟨k, hk⟩ := Classical.not_forall.1 hall
              obtain ⟨hk1, hk2⟩ := Classical.not_imp.1 hk
              refine ⟨k, ?_⟩
              simp only
              cases hkw : kW agg cols k with
              | none => exact ⟨_, List.mem_singleton.2 rfl, trivial, fun h => h.elim⟩
              | some wv => exact ⟨_, List.mem_cons_of_mem _ (List.mem_singleton.2 rfl), ⟨hk1, by simpa using hk2⟩, fun h => absurd h hgg⟩
      · cases h
    · cases h
  · cases h
/-- the entry that came -/
def dEntry (s : S) (args : List V) : Option DP := match args with
  | [.val (.one (.ptr rid 0))] => (match s.blk rid with
    | some (.itr true mid g _ (some k)) => (match s.blk mid with
      | some (.mpl _ key agg has cols g') => (match kW agg cols k with
        | some wv => some ⟨Unit, fun _ => [⟨none, some (g = g' ∧ has k = true), ⟨.tup [.one (.int key (.tm k)), wv], [rid, mid], []⟩⟩]⟩
        | none => none)
      | _ => none)
    | _ => none)
  | _ => none
theorem dEntry_ok {x : Operand} {s : S} {args : List V} {d : DP} (h : dEntry s args = some d) : DynOk P X (.entry x) s args d := by
  unfold dEntry at h
  split at h
  · rename_i rid
    split at h
    · rename_i mid g seen k hb
      split at h
      · rename_i own key agg has cols g' hm
        split at h
        · rename_i wv hkw
          cases h
          intro o ho hd D a w β hc hb0 hB hargs
          refine ⟨(), _, List.mem_singleton.2 rfl, trivial, ?_⟩
          rintro ⟨hgg, hk⟩ K Q hK
          subst hgg
          obtain ⟨p, k1, k2, k3⟩ := hB.mem rid _ hb
          obtain ⟨q, l1, l2, l3⟩ := hB.mem mid _ hm
          cases p with
          | val _ => exact k2.elim
          | blk r =>
            cases q with
            | val _ => exact l2.elim
            | blk b =>
              obtain ⟨i1, bm, sn, i2, i3, i4, i5⟩ := k2
              rw [l1] at i2; cases i2
              obtain ⟨m1, es, m2, m3, m4⟩ := l2
              obtain ⟨i6, sn', rfl⟩ := i5 k rfl
              obtain ⟨⟨b', hx1, hx2⟩, _⟩ := hargs
              rw [k1] at hx1; cases hx1
              have hx2 : a.eval x = .pointer (some ⟨r, 0, none⟩) := hx2
              obtain ⟨e, e1, e2⟩ := m3.all k hk
              rw [← m4.at_ e e1 k e2] at i3
              have hrun := run_entry_at (P := P) w r b g.clock sn' es g.clock e i3 m2 e1 m3.apart
              obtain ⟨dst, op, type, pos, after, guard⟩ := o; simp only at ho; subst ho
              have hrun : (execOp a.eval ⟨dst, .entry x, type, pos, after, guard⟩).run P w = .ok (.value (.tuple #[e.key, e.val])) w := by
                simp only [execOp, hx2, Sem.run_bind, hrun, Result.andThen_ok]; rfl
              unfold Oper.wp
              rw [hrun]
              obtain ⟨q, hq, _, hv⟩ := m3.keys e e1
              rw [e2] at hq
              cases hq
              exact hK _ _ ⟨hc, β, hb0, hB.put hd (v := .tup [.one (.int key (.tm k)), wv]) ⟨_, rfl, by rw [e2]; rfl, kW_ok hkw hv β, trivial⟩⟩
        · cases h
      · cases h
    · cases h
  · cases h
/-- the operations of which a run picks a way -/
def dynOf (P : Program) (op : Op) (args : List V) (s : S) (fr : Nat) : Option DP := match op with
  | .range t _ => dRange P t s fr args
  | .next _ false => dNext s args
  | .entry _ => dEntry s args
  | _ => none
theorem dynOf_ok {op : Op} {args : List V} {s : S} {fr : Nat} (hf : s.blk fr = none) {d : DP} (h : dynOf P op args s fr = some d) : DynOk P X op s args d := by
  unfold dynOf at h
  split at h
  · exact dRange_ok hf h
  · exact dNext_ok h
  · exact dEntry_ok h
  · cases h
end
end Go.Proofs.YtcecdpebapkfaaaHy
namespace Go.Proofs.YtcecdpebapkfaaaHy
open Go Go.RowKit

/-- the place n of a list, by the recursors themselves: the kernel reads it faster so -/
noncomputable def lget {α : Type} (d : α) (l : List α) : Nat → α :=
  List.rec (motive := fun _ => Nat → α) (fun _ => d) (fun x _ ih n => Nat.rec (motive := fun _ => α) x (fun m _ => ih m) n) l
theorem lget_eq {α : Type} (d : α) : ∀ (l : List α) (n : Nat), lget d l n = l.getD n d
  | [], n => by simp [lget]
  | x :: xs, 0 => rfl
  | x :: xs, n + 1 => by
    have := lget_eq d xs n
    simp only [List.getD_cons_succ, ← this]; rfl
noncomputable def lset {α : Type} (v : α) (l : List α) : Nat → List α :=
  List.rec (motive := fun _ => Nat → List α) (fun _ => []) (fun x xs ih n => Nat.rec (motive := fun _ => List α) (v :: xs) (fun m _ => x :: ih m) n) l
theorem lset_eq {α : Type} (v : α) : ∀ (l : List α) (n : Nat), lset v l n = l.set n v
  | [], n => by simp [lset]
  | x :: xs, 0 => rfl
  | x :: xs, n + 1 => by
    have := lset_eq v xs n
    simp only [List.set_cons_succ, ← this]; rfl

/-- a state: the frame; the objects -/
structure St where
  tmps : List V
  mem : List Ob
noncomputable def view (σ : St) : S := ⟨fun t => lget (.val (.one .junk)) σ.tmps t, fun id => σ.mem[id]?⟩

noncomputable def appT (n : Nat) (ts : List V) (d : Option Tmp) (v : V) : Option (List V) :=
  match d with
  | none => some ts
  | some t => if Nat.blt t n then some (lset v ts t) else none
def app1 (ms : List Ob) (id : Nat) (b : Ob) : Option (List Ob) := match ms[id]? with
  | some _ => some (ms.set id b)
  | none => if Nat.beq id ms.length then some (ms ++ [b]) else none
/-- the writes of one operation, each to a place of its own -/
def appM : List Ob → List (Nat × Option Ob) → Option (List Ob)
  | ms, [] => some ms
  | ms, (id, some b) :: r => if r.any (fun q => Nat.beq q.1 id) then none else (match app1 ms id b with
    | some ms' => appM ms' r
    | none => none)
  | _, (_, none) :: _ => none
theorem appT_ok {n : Nat} {ts ts' : List V} (hf : ts.length = n) {d : Option Tmp} {v : V} (h : appT n ts d v = some ts') :
    (fun t => lget (.val (.one .junk)) ts' t) = upd (fun t => lget (.val (.one .junk)) ts t) (look (wrT d v)) ∧ ts'.length = n ∧ ∀ t, d = some t → t < n := by
  unfold appT at h
  split at h
  · cases h; exact ⟨rfl, hf, fun t h => by cases h⟩
  · rename_i t
    split at h
    · rename_i hlt
      cases h
      have hlt' : t < n := by simpa [Nat.blt_eq] using hlt
      refine ⟨?_, by rw [lset_eq]; simpa using hf, fun t' h => by cases h; exact hlt'⟩
      funext u
      simp only [upd_one, wrT, lget_eq, lset_eq, List.getD_eq_getElem?_getD, List.getElem?_set]
      by_cases e1 : u = t
      · subst e1; rw [← hf] at hlt'; simp [hlt']
      · have : ¬ t = u := fun h => e1 h.symm
        simp [e1, this]
    · cases h
theorem app1_ok {ms ms' : List Ob} {id : Nat} {b : Ob} (h : app1 ms id b = some ms') : (fun j => ms'[j]?) = upd (fun j : Nat => ms[j]?) (look [(id, some b)]) ∧ ms.length ≤ ms'.length := by
  unfold app1 at h
  split at h
  · rename_i b0 hb0
    cases h
    have hlt : id < ms.length := (List.getElem?_eq_some_iff.1 hb0).1
    refine ⟨?_, by simp⟩
    funext j
    simp only [upd_one, List.getElem?_set]
    by_cases e1 : j = id
    · subst e1; simp [hlt]
    · have : ¬ id = j := fun h => e1 h.symm
      simp [e1, this]
  · split at h
    · rename_i hid
      cases h
      have := Nat.eq_of_beq_eq_true hid
      subst this
      refine ⟨?_, by simp⟩
      funext j
      simp only [upd_one, List.getElem?_append]
      by_cases e1 : j < ms.length
      · have : ¬ j = ms.length := by omega
        simp [e1, this]
      · by_cases e2 : j = ms.length
        · subst e2; simp
        · rw [if_neg e1, if_neg e2, List.getElem?_eq_none (by simp; omega), List.getElem?_eq_none (by omega)]
    · cases h
theorem look_none {α : Type} {l : List (Nat × α)} {x : Nat} (h : l.any (fun q => Nat.beq q.1 x) = false) : look l x = none := by
  cases hl : look l x with
  | none => rfl
  | some v =>
    obtain ⟨p, hp, he⟩ := look_mem hl
    rw [List.any_eq_false] at h
    exact absurd (by rw [he]; exact Nat.beq_refl x) (h p hp)
theorem appM_ok : ∀ {wr : List (Nat × Option Ob)} {ms ms' : List Ob}, appM ms wr = some ms' → (fun id => ms'[id]?) = upd (fun id : Nat => ms[id]?) (look wr) ∧ ms.length ≤ ms'.length
  | [], ms, ms', h => by cases h; exact ⟨rfl, Nat.le_refl _⟩
  | (id, some b) :: r, ms, ms', h => by
    unfold appM at h
    split at h
    · cases h
    · rename_i hn
      simp only [Bool.not_eq_true] at hn
      split at h
      · rename_i m1 h1
        obtain ⟨k1, k2⟩ := app1_ok h1
        obtain ⟨k3, k4⟩ := appM_ok h
        refine ⟨?_, Nat.le_trans k2 k4⟩
        rw [k3, k1]
        funext j
        by_cases e : id = j
        · subst e
          simp only [upd, look, look_none hn, Nat.beq_refl, if_true]
        · have hb : Nat.beq id j = false := by
            cases hb : Nat.beq id j
            · rfl
            · exact absurd (Nat.eq_of_beq_eq_true hb) e
          simp only [upd, look, hb, Bool.false_eq_true, if_false]
      · cases h
  | (_, none) :: _, _, _, h => by cases h

/-! ### ways as statements -/
def impP : Option Prop → Prop → Prop
  | none, x => x
  | some g, x => g → x
def andP : Option Prop → Prop → Prop
  | none, x => x
  | some n, x => n ∧ x
theorem impP_ok {g : Option Prop} {x : Prop} (h : impP g x) (hg : holdsP g) : x := by
  cases g with
  | none => exact h
  | some p => exact h hg
theorem andP_ok {n : Option Prop} {x : Prop} (h : andP n x) : holdsP n ∧ x := by
  cases n with
  | none => exact ⟨trivial, h⟩
  | some p => exact h
def allP (K : Eff → Prop) : List Path → Prop
  | [] => True
  | [p] => impP p.g (andP p.need (K p.e))
  | p :: q :: r => impP p.g (andP p.need (K p.e)) ∧ allP K (q :: r)
theorem allP_mem {K : Eff → Prop} : ∀ {l : List Path}, allP K l → ∀ p ∈ l, impP p.g (andP p.need (K p.e))
  | [], _, p, hp => by cases hp
  | [q], h, p, hp => by rw [List.mem_singleton.1 hp]; exact h
  | q :: q2 :: r, h, p, hp => by
    rcases List.mem_cons.1 hp with rfl | hp
    · exact h.1
    · exact allP_mem h.2 p hp
/-- truths that are known on a way: of slots -/
abbrev Kn := List (Nat × Bool)
def KnOk (kn : Kn) (s : S) : Prop := ∀ p ∈ kn, ∃ e : B, s.tmp p.1 = .val (.one (.bool e)) ∧ e.v = p.2
def knAt : Kn → Nat → Option Bool
  | [], _ => none
  | p :: r, t => if Nat.beq p.1 t then some p.2 else knAt r t
theorem knAt_ok : ∀ {kn : Kn} {s : S} {t : Nat} {b : Bool}, KnOk kn s → knAt kn t = some b → ∃ e : B, s.tmp t = .val (.one (.bool e)) ∧ e.v = b
  | p :: r, s, t, b, h, hk => by
    unfold knAt at hk
    split at hk
    · rename_i e; cases hk; rw [← Nat.eq_of_beq_eq_true e]; exact h p (by simp)
    · exact knAt_ok (fun q hq => h q (by simp [hq])) hk
def knOff (kn : Kn) (d : Option Tmp) : Kn := match d with
  | none => kn
  | some t => kn.filter fun p => !Nat.beq p.1 t
theorem knOff_ok {kn : Kn} {s : S} (h : KnOk kn s) (d : Option Tmp) (v : V) (f : Nat → Option Ob) : KnOk (knOff kn d) ⟨upd s.tmp (look (wrT d v)), f⟩ := by
  intro p hp
  cases d with
  | none => exact h p hp
  | some t =>
    simp only [knOff, List.mem_filter, Bool.not_eq_true'] at hp
    obtain ⟨e, h1, h2⟩ := h p hp.1
    refine ⟨e, ?_, h2⟩
    simp only [wrT, upd_one]
    rw [if_neg (fun e2 => by rw [e2, Nat.beq_refl] at hp; exact absurd hp.2 (by simp))]
    exact h1
/-- is an operation of a region wanted? -/
def wantedBy (ops : List Oper) (s : S) (kn : Kn) (o : Oper) : Option (List (Option Prop × Bool × Kn)) :=
  match o.guard with
  | none => some [(none, true, kn)]
  | some (j, want) => match (ops[j]?).bind (·.dst) with
    | none => none
    | some t => match knAt kn t with
      | some b => some [(none, b == want, kn)]
      | none => match s.tmp t with
        | .val (.one (.bool (.lit b))) => some [(none, b == want, kn)]
        | .val (.one (.bool (.tm c))) => some [(some (c = true), true == want, (t, true) :: kn), (some (c = false), false == want, (t, false) :: kn)]
        | .val (.one (.cst (.int _ _))) => some [(none, false, kn)]
        | _ => none
def allG (K : Bool → Kn → Prop) : List (Option Prop × Bool × Kn) → Prop
  | [] => True
  | [p] => impP p.1 (K p.2.1 p.2.2)
  | p :: q :: r => impP p.1 (K p.2.1 p.2.2) ∧ allG K (q :: r)
theorem allG_mem {K : Bool → Kn → Prop} : ∀ {l : List (Option Prop × Bool × Kn)}, allG K l → ∀ p ∈ l, impP p.1 (K p.2.1 p.2.2)
  | [], _, p, hp => by cases hp
  | [q], h, p, hp => by rw [List.mem_singleton.1 hp]; exact h
  | q :: q2 :: r, h, p, hp => by
    rcases List.mem_cons.1 hp with rfl | hp
    · exact h.1
    · exact allG_mem h.2 p hp
section
variable {P : Program} {X : Cx}
theorem wantedBy_ok {ops : Array Oper} {s : S} {kn : Kn} (hkn : KnOk kn s) {o : Oper} {l : List (Option Prop × Bool × Kn)} (h : wantedBy ops.toList s kn o = some l) :
    ∃ p ∈ l, holdsP p.1 ∧ KnOk p.2.2 s ∧ ∀ D s2 a w, Rep X D s2 a w → (∀ t ∈ o.looksAt ops, s2.tmp t = s.tmp t) → Region.wanted o (yielded ops a.tmps) = p.2.1 := by
  unfold wantedBy at h
  split at h
  · rename_i hg
    cases h
    exact ⟨_, List.mem_singleton.2 rfl, trivial, hkn, fun D s2 a w _ _ => by simp [Region.wanted, hg]⟩
  · rename_i j want hg
    split at h
    · cases h
    · rename_i t ht
      have ht' : (ops[j]?).bind (·.dst) = some t := by rw [← Array.getElem?_toList]; exact ht
      have hlook : t ∈ o.looksAt ops := by unfold Oper.looksAt; rw [hg]; simp [ht']
      have key : ∀ e, s.tmp t = .val (.one (.bool e)) → ∀ D s2 a w, Rep X D s2 a w → (∀ t ∈ o.looksAt ops, s2.tmp t = s.tmp t) → Region.wanted o (yielded ops a.tmps) = (e.v == want) := by
        intro e he D s2 a w hR hag
        obtain ⟨_, β, _, hB⟩ := hR
        have h1 := hB.tmps t
        rw [hag t hlook, he] at h1
        have h2 : a.tmps.getD t undef = .bool e.v := h1
        have h3 : a.tmps[t]? = some (.bool e.v) := by
          rw [Array.getD_eq_getD_getElem?] at h2
          cases h4 : a.tmps[t]? with
          | none => rw [h4] at h2; cases h2
          | some u => rw [h4] at h2; simp at h2; rw [h2]
        unfold Region.wanted yielded
        simp only [hg, ht', Option.bind_some, h3]
        cases e.v <;> cases want <;> rfl
      split at h
      · rename_i b hb
        cases h
        obtain ⟨e, h1, h2⟩ := knAt_ok hkn hb
        exact ⟨_, List.mem_singleton.2 rfl, trivial, hkn, fun D s2 a w hR hag => by rw [key _ h1 D s2 a w hR hag, h2]⟩
      · split at h
        · rename_i b he
          cases h
          exact ⟨_, List.mem_singleton.2 rfl, trivial, hkn, fun D s2 a w hR hag => key _ he D s2 a w hR hag⟩
        · rename_i c he
          cases h
          have hk := key _ he
          have hcc : c = true ∨ c = false := by cases c <;> simp
          have hadd : ∀ b, c = b → KnOk ((t, b) :: kn) s := fun b hb p hp => by
            rcases List.mem_cons.1 hp with rfl | hp
            · exact ⟨.tm c, he, hb⟩
            · exact hkn p hp
          rcases hcc with hc | hc
          · exact ⟨_, List.mem_cons_self, hc, hadd true hc, fun D s2 a w hR hag => by rw [hk D s2 a w hR hag]; simp only [B.v, hc]⟩
          · exact ⟨_, List.mem_cons_of_mem _ List.mem_cons_self, hc, hadd false hc, fun D s2 a w hR hag => by rw [hk D s2 a w hR hag]; simp only [B.v, hc]⟩
        · rename_i k n he
          cases h
          refine ⟨_, List.mem_singleton.2 rfl, trivial, hkn, fun D s2 a w hR hag => ?_⟩
          obtain ⟨_, β, _, hB⟩ := hR
          have h1 := hB.tmps t
          rw [hag t hlook, he] at h1
          have h2 : a.tmps.getD t undef = .int k n := h1
          unfold Region.wanted yielded
          simp only [hg, ht', Option.bind_some]
          cases h4 : a.tmps[t]? with
          | none => cases want <;> rfl
          | some u =>
            rw [Array.getD_eq_getD_getElem?, h4] at h2
            simp at h2
            subst h2
            cases want <;> rfl
        · cases h

/-! ### operands -/
def opnd (G : List (Nat × List L)) (s : S) : Operand → Option V
  | .tmp t => some (s.tmp t)
  | .const v => match ofVal v with
    | some w => some (.val w)
    | none => none
  | .global g => match G.findIdx? (fun p => Nat.beq p.1 g) with
    | some i => some (.val (.one (.ptr i 0)))
    | none => none
  | .func f => some (.val (.one (.cst (.func (.func f) #[] #[]))))
theorem opnd_ok {D : Dx} {β : Bm} {s : S} {a : Act} {w : World} (h : RepB X D β s a w) {x : Operand} {v : V} (ho : opnd X.G s x = some v) : v.rel β (a.eval x) := by
  cases x with
  | tmp t => simp only [opnd, Option.some.injEq] at ho; subst ho; exact h.tmps t
  | const u =>
    simp only [opnd] at ho
    split at ho
    · rename_i w' hw; cases ho; exact ofVal_ok hw
    · cases ho
  | global g =>
    simp only [opnd] at ho
    split at ho
    · rename_i i hi
      cases ho
      obtain ⟨hlt, hp, _⟩ := List.findIdx?_eq_some_iff_getElem.1 hi
      have := h.glob i _ (List.getElem?_eq_getElem hlt)
      rw [Nat.eq_of_beq_eq_true hp] at this
      exact ⟨g, this.1, rfl⟩
    · cases ho
  | func f => simp only [opnd, Option.some.injEq] at ho; subst ho; rfl
/-- an operand on a way -/
def opndK (G : List (Nat × List L)) (s : S) (kn : Kn) (x : Operand) : Option V := match x with
  | .tmp t => (match knAt kn t with
    | some b => some (.val (.one (.bool (.lit b))))
    | none => some (s.tmp t))
  | x => opnd G s x
theorem opndK_ok {D : Dx} {β : Bm} {s : S} {a : Act} {w : World} (h : RepB X D β s a w) {kn : Kn} (hkn : KnOk kn s) {x : Operand} {v : V} (ho : opndK X.G s kn x = some v) : v.rel β (a.eval x) := by
  unfold opndK at ho
  split at ho
  · rename_i t
    split at ho
    · rename_i b hb
      cases ho
      obtain ⟨e, h1, h2⟩ := knAt_ok hkn hb
      have h3 := h.tmps t
      rw [h1] at h3
      have h4 : a.tmps.getD t undef = .bool e.v := h3
      show a.tmps.getD t undef = .bool b
      rw [h4, h2]
    · cases ho; exact h.tmps t
  · exact opnd_ok h ho
def argsOf (G : List (Nat × List L)) (s : S) (kn : Kn) : List Operand → Option (List V)
  | [] => some []
  | x :: xs => match opndK G s kn x, argsOf G s kn xs with
    | some v, some vs => some (v :: vs)
    | _, _ => none
theorem argsOf_ok {D : Dx} {β : Bm} {s : S} {a : Act} {w : World} (h : RepB X D β s a w) {kn : Kn} : ∀ {xs : List Operand} {vs : List V}, (∀ t, Operand.tmp t ∈ xs → ∀ b, knAt kn t = some b → ∃ e : B, s.tmp t = .val (.one (.bool e)) ∧ e.v = b) → argsOf X.G s kn xs = some vs → All2 (V.rel β) vs (xs.map a.eval)
  | [], vs, _, ho => by simp [argsOf] at ho; subst ho; trivial
  | x :: xs, vs, hk, ho => by
    unfold argsOf at ho
    split at ho
    · rename_i v vs' h1 h2
      cases ho
      refine ⟨?_, argsOf_ok h (fun t ht => hk t (List.mem_cons_of_mem _ ht)) h2⟩
      unfold opndK at h1
      split at h1
      · rename_i t
        split at h1
        · rename_i b hb
          cases h1
          obtain ⟨e, q1, q2⟩ := hk t List.mem_cons_self b hb
          have h3 := h.tmps t
          rw [q1] at h3
          have h4 : a.tmps.getD t undef = .bool e.v := h3
          show a.tmps.getD t undef = .bool b
          rw [h4, q2]
        · cases h1; exact h.tmps t
      · exact opnd_ok h h1
    · cases ho
theorem argsOf_congr {s s2 : S} {kn : Kn} : ∀ {xs : List Operand}, (∀ t, Operand.tmp t ∈ xs → s2.tmp t = s.tmp t) → argsOf X.G s2 kn xs = argsOf X.G s kn xs
  | [], _ => rfl
  | x :: xs, h => by
    unfold argsOf
    rw [argsOf_congr (xs := xs) (fun t ht => h t (List.mem_cons_of_mem _ ht))]
    have : opndK X.G s2 kn x = opndK X.G s kn x := by
      cases x with
      | tmp t => simp only [opndK, h t List.mem_cons_self]
      | _ => rfl
    rw [this]

/-! ### a region -/
def wrOf (ops : Array Oper) (o : Oper) (e : Eff) : Wr V (Option Ob) := ⟨wrT o.dst e.v, e.wr, o.looksAt ops, e.rd ++ e.wr.map (·.1)⟩
/-- an operation, in whatever state agrees with the text's on what it looks at -/
def OpStep (P : Program) (X : Cx) (ops : Array Oper) (o : Oper) (s : S) (wr : Wr V (Option Ob)) : Prop :=
  ∀ D s2, Agree wr s2 s → ∀ a w, Rep X D s2 a w → ∀ (K : Act → World → Prop) (Q : Exit → Act → World → Prop), (∀ a' w', Rep X D (s2.app wr) a' w' → K a' w') →
    if Region.wanted o (yielded ops a.tmps) then o.wp P a w K Q else K (a.put o.dst undef) w
/-! an operation that may come or not, but only gives a value: its value if so -/
def bareNeeds (c : Bool) : List V → Option Prop
  | [] => none
  | v :: vs => and2 (needP true c (bare v).2) (bareNeeds c vs)
def condNeed (c : Bool) : Option Prop → Option Prop
  | none => none
  | some n => some (c = true → n)
def guardC (ops : List Oper) (s : S) (kn : Kn) (o : Oper) : Option Bool := match o.guard with
  | none => none
  | some (j, want) => match (ops[j]?).bind (·.dst) with
    | none => none
    | some t => match knAt kn t, s.tmp t with
      | none, .val (.one (.bool (.tm c))) => (match want with
        | true => some c
        | false => some (!c))
      | _, _ => none
def specOf (P : Program) (G : List (Nat × List L)) (call : CallH) (s : S) (kn : Kn) (o : Oper) (fresh : Nat) (c : Bool) : Option (Option Prop × Eff) :=
  match argsOf G s kn o.op.operands.toList with
  | none => none
  | some args => match effs P call o.op (args.map fun v => (bare v).1) s fresh with
    | some [p] => (match p.g, p.e.wr with
      | none, [] => some (and2 (bareNeeds c args) (condNeed c p.need), p.e)
      | _, _ => none)
    | _ => none
theorem guardC_ok {ops : Array Oper} {s : S} {kn : Kn} {o : Oper} {c : Bool} (h : guardC ops.toList s kn o = some c) : ∀ D s2 a w, Rep X D s2 a w → (∀ t ∈ o.looksAt ops, s2.tmp t = s.tmp t) → Region.wanted o (yielded ops a.tmps) = c := by
  unfold guardC at h
  split at h
  · cases h
  · rename_i j want hg
    split at h
    · cases h
    · rename_i t ht
      have ht' : (ops[j]?).bind (·.dst) = some t := by rw [← Array.getElem?_toList]; exact ht
      have hlook : t ∈ o.looksAt ops := by unfold Oper.looksAt; rw [hg]; simp [ht']
      split at h
      · rename_i c0 _ he
        intro D s2 a w hR hag
        obtain ⟨_, β, _, hB⟩ := hR
        have h1 := hB.tmps t
        rw [hag t hlook, he] at h1
        have h2 : a.tmps.getD t undef = .bool c0 := h1
        have h3 : a.tmps[t]? = some (.bool c0) := by
          rw [Array.getD_eq_getD_getElem?] at h2
          cases h4 : a.tmps[t]? with
          | none => rw [h4] at h2; cases h2
          | some u => rw [h4] at h2; simp at h2; rw [h2]
        unfold Region.wanted yielded
        simp only [hg, ht', Option.bind_some, h3]
        cases want <;> simp only [Option.some.injEq] at h <;> subst h <;> cases c0 <;> rfl
      · cases h
theorem bareNeeds_ok {c : Bool} : ∀ {vs : List V}, holdsP (bareNeeds c vs) → c = true → ∀ {β : Bm} {xs : List Value}, All2 (V.rel β) vs xs → All2 (V.rel β) (vs.map fun v => (bare v).1) xs
  | [], _, _, β, [], _ => trivial
  | v :: vs, h, hc, β, x :: xs, hx => by
    obtain ⟨h1, h2⟩ := and2_ok h
    exact ⟨bare_ok hx.1 (needP_ok h1 hc), bareNeeds_ok h2 hc hx.2⟩
  | [], _, _, _, _ :: _, h => h.elim
  | _ :: _, _, _, _, [], h => h.elim
theorem condNeed_ok {c : Bool} {n : Option Prop} (h : holdsP (condNeed c n)) (hc : c = true) : holdsP n := by
  cases n with
  | none => trivial
  | some p => exact h hc
/-- a slot that says less -/
theorem rep_less {D : Dx} {s : S} {a : Act} {w : World} {d : Option Tmp} {v v' : V} {f : Nat → Option Ob} (hv : ∀ β x, v.rel β x → v'.rel β x) (h : Rep X D ⟨upd s.tmp (look (wrT d v)), f⟩ a w) : Rep X D ⟨upd s.tmp (look (wrT d v')), f⟩ a w := by
  obtain ⟨hc, β, hb, hB⟩ := h
  refine ⟨hc, β, hb, { hB with tmps := fun t => ?_ }⟩
  have := hB.tmps t
  cases d with
  | none => exact this
  | some u =>
    simp only [wrT, upd_one] at this ⊢
    split
    · rename_i e; rw [if_pos e] at this; exact hv _ _ this
    · rename_i e; rw [if_neg e] at this; exact this
theorem spec_step {call : CallH} (hcall : CallHOk P X call) {ops : Array Oper} {ts : List V} {ms : List Ob} {kn : Kn} (hkn : KnOk kn (view ⟨ts, ms⟩)) {o : Oper} {c : Bool} (hg : guardC ops.toList (view ⟨ts, ms⟩) kn o = some c)
    {n : Option Prop} {e : Eff} (h : specOf P X.G call (view ⟨ts, ms⟩) kn o ms.length c = some (n, e)) (hn : holdsP n) (hd : ∀ t, o.dst = some t → t < X.n) : OpStep P X ops o (view ⟨ts, ms⟩) (wrOf ops o ⟨.opt c e.v, e.rd, []⟩) := by
  unfold specOf at h
  split at h
  · cases h
  · rename_i args hargs
    split at h
    · rename_i p hp
      split at h
      · rename_i hpg hpw
        cases h
        obtain ⟨hn1, hn2⟩ := and2_ok hn
        have hfree : ∀ i, ms.length ≤ i → (view ⟨ts, ms⟩).blk i = none := fun i hi => by simp [view, hi]
        obtain ⟨q, hqm, _, hqe⟩ := effs_ok (X := X) hcall hfree hp
        rw [List.mem_singleton.1 hqm] at hqe
        intro D s2 hag a w hR K Q hK
        rw [guardC_ok hg D s2 a w hR hag.1]
        have hlk : ∀ t, Operand.tmp t ∈ o.op.operands.toList → t ∈ o.looksAt ops := fun t ht => by
          unfold Oper.looksAt
          exact List.mem_append_left _ (List.mem_filterMap.2 ⟨.tmp t, ht, rfl⟩)
        have hst : s2.app (wrOf ops o ⟨.opt c p.e.v, p.e.rd, []⟩) = ⟨upd s2.tmp (look (wrT o.dst (.opt c p.e.v))), s2.blk⟩ := rfl
        cases hc : c with
        | true =>
          rw [if_pos rfl]
          obtain ⟨hC0, β, hb0, hB⟩ := hR
          refine hqe (condNeed_ok hn2 hc) o rfl hd D s2 a w β hC0 hb0 hB ?_ (fun id hid => hag.2 id (by simp [wrOf, hid])) (fun r hr => by rw [hpw] at hr; cases hr) K Q (fun a' w' hR' => hK a' w' ?_)
          · refine bareNeeds_ok hn1 hc (argsOf_ok hB (kn := kn) (fun t ht b hb => ?_) ?_)
            · rw [hag.1 t (hlk t ht)]; exact knAt_ok hkn hb
            · rw [argsOf_congr (s := view ⟨ts, ms⟩) (fun t ht => hag.1 t (hlk t ht))]
              exact hargs
          · rw [hst]
            rw [hpw] at hR'
            exact rep_less (v := p.e.v) (v' := .opt c p.e.v) (fun β x hx _ => hx) hR'
        | false =>
          simp only [Bool.false_eq_true, if_false]
          obtain ⟨hcc, β, hb, hB⟩ := hR
          refine hK _ _ ?_
          rw [hst]
          exact ⟨hcc, β, hb, hB.put hd (v := .opt c p.e.v) (fun h => by rw [hc] at h; cases h)⟩
      · cases h
    · cases h
noncomputable def runOps (P : Program) (G : List (Nat × List L)) (call : CallH) (n : Nat) (ops : Array Oper) (K : List V → List Ob → List (Wr V (Option Ob)) → Prop) : List Oper → Kn → List V → List Ob → List (Wr V (Option Ob)) → Prop
  | [], _, ts, ms, acc => K ts ms acc
  | o :: rest, kn, ts, ms, acc => match (match guardC ops.toList (view ⟨ts, ms⟩) kn o with
      | none => none
      | some c => (match specOf P G call (view ⟨ts, ms⟩) kn o ms.length c with
        | none => none
        | some q => (match appT n ts o.dst (.opt c q.2.v) with
          | none => none
          | some ts' => some (c, q, ts')))) with
    | some (c, q, ts') => andP q.1 (runOps P G call n ops K rest (knOff kn o.dst) ts' ms (acc ++ [wrOf ops o ⟨.opt c q.2.v, q.2.rd, []⟩]))
    | none => match wantedBy ops.toList (view ⟨ts, ms⟩) kn o with
      | none => False
      | some l => allG (fun want kn' => match want with
        | true => (match argsOf G (view ⟨ts, ms⟩) kn' o.op.operands.toList with
          | none => False
          | some args => (match effsB P call o.op o.type args (view ⟨ts, ms⟩) ms.length with
            | none => False
            | some ps => allP (fun e => match appT n ts o.dst e.v, appM ms e.wr with
              | some ts', some ms' => runOps P G call n ops K rest (knOff kn' o.dst) ts' ms' (acc ++ [wrOf ops o e])
              | _, _ => False) ps))
        | false => (match appT n ts o.dst undefV with
          | some ts' => runOps P G call n ops K rest (knOff kn' o.dst) ts' ms (acc ++ [wrOf ops o ⟨undefV, [], []⟩])
          | none => False)) l

theorem textSt_cons {α β : Type} (s0 : SS α β) (w : Wr α β) (ws : List (Wr α β)) : ∀ i, textSt s0 (w :: ws) (i + 1) = textSt (s0.app w) ws i
  | 0 => rfl
  | i + 1 => by
    rw [textSt, textSt_cons s0 w ws i]
    simp only [List.getElem?_cons_succ, textSt]
theorem view_free (ts : List V) (ms : List Ob) : ∀ i, ms.length ≤ i → (view ⟨ts, ms⟩).blk i = none := fun i hi => by simp [view, hi]
theorem runOps_ok {call : CallH} (hcall : CallHOk P X call) {ops : Array Oper} {K : List V → List Ob → List (Wr V (Option Ob)) → Prop} : ∀ (rest : List Oper) (kn : Kn) (ts : List V) (ms : List Ob) (acc : List (Wr V (Option Ob))),
    runOps P X.G call X.n ops K rest kn ts ms acc → KnOk kn (view ⟨ts, ms⟩) → ts.length = X.n →
    ∃ ts' ms' ws, K ts' ms' (acc ++ ws) ∧ ts'.length = X.n ∧ ws.length = rest.length ∧ textSt (view ⟨ts, ms⟩) ws rest.length = view ⟨ts', ms'⟩ ∧
      ∀ i w, ws[i]? = some w → ∃ o, rest[i]? = some o ∧ OpStep P X ops o (textSt (view ⟨ts, ms⟩) ws i) w
  | [], kn, ts, ms, acc, h, _, hn => ⟨ts, ms, [], by simpa [runOps] using h, hn, rfl, rfl, fun i w hw => by simp at hw⟩
  | o :: rest, kn, ts, ms, acc, h, hkn, hn => by
    unfold runOps at h
    have fin0 : ∀ (kn' : Kn) (e : Eff) (ts' : List V) (ms' : List Ob), KnOk kn' (view ⟨ts, ms⟩) → appT X.n ts o.dst e.v = some ts' → appM ms e.wr = some ms' → runOps P X.G call X.n ops K rest (knOff kn' o.dst) ts' ms' (acc ++ [wrOf ops o e]) →
        OpStep P X ops o (view ⟨ts, ms⟩) (wrOf ops o e) → ∃ ts' ms' ws, K ts' ms' (acc ++ ws) ∧ ts'.length = X.n ∧ ws.length = (o :: rest).length ∧ textSt (view ⟨ts, ms⟩) ws (o :: rest).length = view ⟨ts', ms'⟩ ∧
          ∀ i w, ws[i]? = some w → ∃ o', (o :: rest)[i]? = some o' ∧ OpStep P X ops o' (textSt (view ⟨ts, ms⟩) ws i) w := by
      intro kn' e ts' ms' hpk k1 k2 k3 hstep
      obtain ⟨t1, t2, _⟩ := appT_ok hn k1
      obtain ⟨m1, _⟩ := appM_ok k2
      have happ : (view ⟨ts, ms⟩).app (wrOf ops o e) = view ⟨ts', ms'⟩ := by
        unfold view; simp only; rw [t1, m1]; rfl
      have hk' : KnOk (knOff kn' o.dst) (view ⟨ts', ms'⟩) := by rw [← happ]; exact knOff_ok hpk o.dst e.v _
      obtain ⟨ts2, ms2, ws, q1, q2, q3, q4, q5⟩ := runOps_ok hcall rest _ ts' ms' _ k3 hk' t2
      refine ⟨ts2, ms2, wrOf ops o e :: ws, by simpa using q1, q2, by simp [q3], ?_, fun i w hw => ?_⟩
      · simp only [List.length_cons]
        rw [textSt_cons, happ]; exact q4
      · cases i with
        | zero =>
          simp only [List.getElem?_cons_zero, Option.some.injEq] at hw
          subst hw
          exact ⟨o, rfl, hstep⟩
        | succ i =>
          simp only [List.getElem?_cons_succ] at hw ⊢
          obtain ⟨o', ho', hs'⟩ := q5 i w hw
          exact ⟨o', ho', by rw [textSt_cons, happ]; exact hs'⟩
    split at h
    · rename_i c q ts' hsp
      split at hsp
      · cases hsp
      · rename_i c' hgc
        split at hsp
        · cases hsp
        · rename_i q' hq
          split at hsp
          · cases hsp
          · rename_i ts'' hts
            cases hsp
            obtain ⟨hn1, h1⟩ := andP_ok h
            obtain ⟨_, _, t3⟩ := appT_ok hn hts
            exact fin0 kn ⟨.opt c q.2.v, q.2.rd, []⟩ ts' ms hkn hts rfl h1 (spec_step hcall hkn hgc hq hn1 t3)
    split at h
    · exact h.elim
    · rename_i l hl
      obtain ⟨p, hpm, hpg, hpk, hpw⟩ := wantedBy_ok (X := X) hkn hl
      have h1 := impP_ok (allG_mem h p hpm) hpg
      -- the rest of the text, once this operation is known
      have fin : ∀ (e : Eff) (ts' : List V) (ms' : List Ob), appT X.n ts o.dst e.v = some ts' → appM ms e.wr = some ms' → runOps P X.G call X.n ops K rest (knOff p.2.2 o.dst) ts' ms' (acc ++ [wrOf ops o e]) →
          OpStep P X ops o (view ⟨ts, ms⟩) (wrOf ops o e) → ∃ ts' ms' ws, K ts' ms' (acc ++ ws) ∧ ts'.length = X.n ∧ ws.length = (o :: rest).length ∧ textSt (view ⟨ts, ms⟩) ws (o :: rest).length = view ⟨ts', ms'⟩ ∧
            ∀ i w, ws[i]? = some w → ∃ o', (o :: rest)[i]? = some o' ∧ OpStep P X ops o' (textSt (view ⟨ts, ms⟩) ws i) w := by
        intro e ts' ms' k1 k2 k3 hstep
        obtain ⟨t1, t2, _⟩ := appT_ok hn k1
        obtain ⟨m1, _⟩ := appM_ok k2
        have happ : (view ⟨ts, ms⟩).app (wrOf ops o e) = view ⟨ts', ms'⟩ := by
          unfold view; simp only; rw [t1, m1]; rfl
        have hk' : KnOk (knOff p.2.2 o.dst) (view ⟨ts', ms'⟩) := by rw [← happ]; exact knOff_ok hpk o.dst e.v _
        obtain ⟨ts2, ms2, ws, q1, q2, q3, q4, q5⟩ := runOps_ok hcall rest _ ts' ms' _ k3 hk' t2
        refine ⟨ts2, ms2, wrOf ops o e :: ws, by simpa using q1, q2, by simp [q3], ?_, fun i w hw => ?_⟩
        · simp only [List.length_cons]
          rw [textSt_cons, happ]; exact q4
        · cases i with
          | zero =>
            simp only [List.getElem?_cons_zero, Option.some.injEq] at hw
            subst hw
            exact ⟨o, rfl, hstep⟩
          | succ i =>
            simp only [List.getElem?_cons_succ] at hw ⊢
            obtain ⟨o', ho', hs'⟩ := q5 i w hw
            exact ⟨o', ho', by rw [textSt_cons, happ]; exact hs'⟩
      split at h1
      · rename_i hwant
        split at h1
        · exact h1.elim
        · rename_i args hargs
          split at h1
          · exact h1.elim
          · rename_i ps hps
            obtain ⟨q, hqm, hqg, hqe⟩ := effsB_ok (X := X) hcall (view_free ts ms) hps
            have h2 := impP_ok (allP_mem h1 q hqm) hqg
            obtain ⟨hqn, h3⟩ := andP_ok h2
            split at h3
            · rename_i ts' ms' k1 k2
              obtain ⟨t1, t2, t3⟩ := appT_ok hn k1
              refine fin q.e ts' ms' k1 k2 h3 (fun D s2 hag a w hR K' Q hK => ?_)
              rw [hpw D s2 a w hR hag.1, hwant, if_pos rfl]
              have hlk : ∀ t, Operand.tmp t ∈ o.op.operands.toList → t ∈ o.looksAt ops := fun t ht => by
                unfold Oper.looksAt
                exact List.mem_append_left _ (List.mem_filterMap.2 ⟨.tmp t, ht, rfl⟩)
              obtain ⟨hC0, β, hb0, hB⟩ := hR
              refine hqe hqn o rfl t3 D s2 a w β hC0 hb0 hB ?_ (fun id hid => hag.2 id (by simp [wrOf, hid])) (fun r hr => hag.2 r.1 (by simp only [wrOf, List.mem_append, List.mem_map]; exact .inr ⟨r, hr, rfl⟩)) K' Q hK
              refine argsOf_ok hB (kn := p.2.2) (fun t ht b hb => ?_) ?_
              · rw [hag.1 t (hlk t ht)]; exact knAt_ok hpk hb
              · rw [argsOf_congr (s := view ⟨ts, ms⟩) (fun t ht => hag.1 t (hlk t ht))]
                exact hargs
            · exact h3.elim
      · rename_i hwant
        split at h1
        · rename_i ts' k1
          obtain ⟨t1, t2, t3⟩ := appT_ok hn k1
          refine fin ⟨undefV, [], []⟩ ts' ms k1 rfl h1 (fun D s2 hag a w hR K' Q hK => ?_)
          rw [hpw D s2 a w hR hag.1, hwant]
          simp only [Bool.false_eq_true, if_false]
          obtain ⟨hc, β, hb, hB⟩ := hR
          exact hK _ _ ⟨hc, β, hb, hB.put t3 (undefV_ok β)⟩
        · exact h1.elim

end
end Go.Proofs.YtcecdpebapkfaaaHy
namespace Go.Proofs.YtcecdpebapkfaaaHy
open Go Go.RowKit

inductive Out where
  | normal
  | ret
  | exit (id : Nat)
def Out.to : Out → Exit
  | .normal => .normal
  | .ret => .ret
  | .exit id => .exit id
def inBlk (id : Nat) : Out → Out
  | .exit j => if Nat.beq j id then .normal else .exit j
  | o => o

/-! ### what a value names -/
def L.ids : L → List Nat
  | .ptr id _ | .elt id _ _ _ _ | .lel id _ _ _ | .vec id | .sub id _ _ _ | .map id => [id]
  | .clo _ caps => caps.map (·.1)
  | _ => []
def W.ids : W → List Nat
  | .one l => l.ids
  | .agg ls => ls.flatMap L.ids
def V.ids : V → List Nat
  | .val w => w.ids
  | .tup ws => ws.flatMap W.ids
  | .opt _ v => v.ids
def Seg.ids : Seg → List Nat
  | .cells ls => ls.flatMap L.ids
  | .arr _ _ => []
def Ob.ids : Ob → List Nat
  | .mem _ segs => segs.flatMap Seg.ids
  | .itr _ mid _ _ _ => [mid]
  | _ => []
/-- two readings of numbers that agree on these -/
def Bm.on (l : List Nat) (β β' : Bm) : Prop := ∀ id ∈ l, ∀ p, β id = some p → β' id = some p
theorem capsRel_on {β β' : Bm} : ∀ {ps : List (Nat × Nat)} {xs : List Value}, Bm.on (ps.map (·.1)) β β' → capsRel β ps xs → capsRel β' ps xs
  | [], [], _, _ => trivial
  | p :: ps, x :: xs, h, ⟨⟨b, h1, h2⟩, h3⟩ => ⟨⟨b, h _ (by simp) _ h1, h2⟩, capsRel_on (fun id hid => h id (by simp at hid ⊢; exact .inr hid)) h3⟩
  | [], _ :: _, _, h => h.elim
  | _ :: _, [], _, h => h.elim
theorem L.rel_on {β β' : Bm} {l : L} (h : Bm.on l.ids β β') {x : Value} (hr : l.rel β x) : l.rel β' x := by
  cases l with
  | ptr id off => obtain ⟨b, h1, h2⟩ := hr; exact ⟨b, h id (by simp [L.ids]) _ h1, h2⟩
  | elt id base stride i off => obtain ⟨b, h1, h2⟩ := hr; exact ⟨b, h id (by simp [L.ids]) _ h1, h2⟩
  | lel id stride i off => obtain ⟨a, o, n, c, h1, h2⟩ := hr; exact ⟨a, o, n, c, h id (by simp [L.ids]) _ h1, h2⟩
  | vec id => exact ⟨h id (by simp [L.ids]) _ hr.1, hr.2⟩
  | sub id stride lo len => obtain ⟨x0, h1, h2⟩ := hr; exact ⟨x0, h id (by simp [L.ids]) _ h1, h2⟩
  | map id => obtain ⟨b, h1, h2⟩ := hr; exact ⟨b, h id (by simp [L.ids]) _ h1, h2⟩
  | clo f caps => obtain ⟨xs, h1, h2⟩ := hr; exact ⟨xs, h1, capsRel_on h h2⟩
  | _ => exact hr
theorem all2_on {α : Type} {ids : α → List Nat} {R : Bm → α → Value → Prop} {β β' : Bm} (hR : ∀ a x, Bm.on (ids a) β β' → R β a x → R β' a x) : ∀ {ls : List α} {xs : List Value}, Bm.on (ls.flatMap ids) β β' → All2 (R β) ls xs → All2 (R β') ls xs
  | [], [], _, _ => trivial
  | l :: ls, x :: xs, h, ⟨h1, h2⟩ => ⟨hR l x (fun id hid => h id (by simp [hid])) h1, all2_on hR (fun id hid => h id (by simp only [List.flatMap_cons, List.mem_append]; exact .inr hid)) h2⟩
  | [], _ :: _, _, h => h.elim
  | _ :: _, [], _, h => h.elim
theorem W.rel_on {β β' : Bm} {w : W} (h : Bm.on w.ids β β') {x : Value} (hr : w.rel β x) : w.rel β' x := by
  cases w with
  | one l => exact L.rel_on h hr
  | agg ls => obtain ⟨cs, h1, h2⟩ := hr; exact ⟨cs, h1, all2_on (R := fun β => L.rel β) (fun _ _ h hr => L.rel_on h hr) h h2⟩
theorem V.rel_on {β β' : Bm} : ∀ {v : V}, Bm.on v.ids β β' → ∀ {x : Value}, v.rel β x → v.rel β' x
  | .val _w, h, _x, hr => W.rel_on h hr
  | .tup _ws, h, _x, ⟨cs, h1, h2⟩ => ⟨cs, h1, all2_on (R := fun β => W.rel β) (fun _ _ h hr => W.rel_on h hr) h h2⟩
  | .opt _ v, h, _x, hr => fun hc => V.rel_on (v := v) h (hr hc)
theorem segsOk_on {β β' : Bm} {w : World} {b : Nat} : ∀ {segs : List Seg} {off : Nat}, Bm.on (segs.flatMap Seg.ids) β β' → segsOk β w b off segs → segsOk β' w b off segs
  | [], _, _, _ => trivial
  | .cells ls :: r, off, h, ⟨h1, h2⟩ => ⟨fun j l hl => by
      obtain ⟨x, k1, k2⟩ := h1 j l hl
      refine ⟨x, k1, L.rel_on (fun id hid => h id ?_) k2⟩
      simp only [List.flatMap_cons, List.mem_append, Seg.ids]
      exact .inl (List.mem_flatMap.2 ⟨l, List.mem_of_getElem? hl, hid⟩), segsOk_on (fun id hid => h id (by simp only [List.flatMap_cons, List.mem_append]; exact .inr hid)) h2⟩
  | .arr n cols :: r, off, h, ⟨h1, h2⟩ => ⟨h1, segsOk_on (fun id hid => h id (by simp only [List.flatMap_cons, List.mem_append]; exact .inr hid)) h2⟩
theorem Ob.ok_on {β β' : Bm} {w : World} : ∀ {o : Ob} {p : Pl}, Bm.on o.ids β β' → o.ok β w p → o.ok β' w p
  | .mem _own _segs, .blk _b, h, ⟨h1, h2, h3⟩ => ⟨h1, segsOk_on h h2, h3⟩
  | .mp _ _key _agg _has _cols, .blk _b, _, hk => hk
  | .mpl _ _key _agg _has _cols _, .blk _b, _, hk => hk
  | .itr _ _ _ _ _, .blk _b, h, ⟨h1, bm, sn, h2, h3⟩ => ⟨h1, bm, sn, h _ (by simp [Ob.ids]) _ h2, h3⟩
  | .mpl _ _ _ _ _ _, .val _, _, h => h.elim
  | .itr _ _ _ _ _, .val _, _, h => h.elim
  | .vec _own _e _n _cols, .val _x, _, hk => hk
  | .gone, _, _, _ => trivial
  | .mem _ _, .val _, _, h => h.elim
  | .mp _ _ _ _ _, .val _, _, h => h.elim
  | .vec _ _ _ _, .blk _, _, h => h.elim
def belowB (m : Nat) (l : List Nat) : Bool := l.all fun i => Nat.blt i m
theorem belowB_ok {m : Nat} {l : List Nat} (h : belowB m l = true) : ∀ i ∈ l, i < m := fun i hi => by
  have := List.all_eq_true.1 h i hi
  simpa using this

/-! ### other names -/
def L.ren (f : Nat → Nat) : L → L
  | .ptr id off => .ptr (f id) off
  | .elt id base stride i off => .elt (f id) base stride i off
  | .lel id stride i off => .lel (f id) stride i off
  | .vec id => .vec (f id)
  | .sub id stride lo len => .sub (f id) stride lo len
  | .map id => .map (f id)
  | .clo fn caps => .clo fn (caps.map fun p => (f p.1, p.2))
  | l => l
def W.ren (f : Nat → Nat) : W → W
  | .one l => .one (l.ren f)
  | .agg ls => .agg (ls.map (L.ren f))
def V.ren (f : Nat → Nat) : V → V
  | .val w => .val (w.ren f)
  | .tup ws => .tup (ws.map (W.ren f))
  | .opt c v => .opt c (v.ren f)
def Seg.ren (f : Nat → Nat) : Seg → Seg
  | .cells ls => .cells (ls.map (L.ren f))
  | .arr n cols => .arr n cols
def Ob.ren (f : Nat → Nat) : Ob → Ob
  | .mem own segs => .mem own (segs.map (Seg.ren f))
  | .itr own mid g seen cur => .itr own (f mid) g seen cur
  | o => o
def RenOn (f : Nat → Nat) (l : List Nat) (β β' : Bm) : Prop := ∀ id ∈ l, ∀ p, β id = some p → β' (f id) = some p
theorem capsRel_ren {f : Nat → Nat} {β β' : Bm} : ∀ {ps : List (Nat × Nat)} {xs : List Value}, RenOn f (ps.map (·.1)) β β' → capsRel β ps xs → capsRel β' (ps.map fun p => (f p.1, p.2)) xs
  | [], [], _, _ => trivial
  | p :: ps, x :: xs, h, ⟨⟨b, h1, h2⟩, h3⟩ => ⟨⟨b, h _ (by simp) _ h1, h2⟩, capsRel_ren (fun id hid => h id (by simp at hid ⊢; exact .inr hid)) h3⟩
  | [], _ :: _, _, h => h.elim
  | _ :: _, [], _, h => h.elim
theorem L.rel_ren {f : Nat → Nat} {β β' : Bm} {l : L} (h : RenOn f l.ids β β') {x : Value} (hr : l.rel β x) : (l.ren f).rel β' x := by
  cases l with
  | ptr id off => obtain ⟨b, h1, h2⟩ := hr; exact ⟨b, h id (by simp [L.ids]) _ h1, h2⟩
  | elt id base stride i off => obtain ⟨b, h1, h2⟩ := hr; exact ⟨b, h id (by simp [L.ids]) _ h1, h2⟩
  | lel id stride i off => obtain ⟨a, o, n, c, h1, h2⟩ := hr; exact ⟨a, o, n, c, h id (by simp [L.ids]) _ h1, h2⟩
  | vec id => exact ⟨h id (by simp [L.ids]) _ hr.1, hr.2⟩
  | sub id stride lo len => obtain ⟨x0, h1, h2⟩ := hr; exact ⟨x0, h id (by simp [L.ids]) _ h1, h2⟩
  | map id => obtain ⟨b, h1, h2⟩ := hr; exact ⟨b, h id (by simp [L.ids]) _ h1, h2⟩
  | clo fn caps => obtain ⟨xs, h1, h2⟩ := hr; exact ⟨xs, h1, capsRel_ren h h2⟩
  | _ => exact hr
theorem all2_ren {α : Type} {ids : α → List Nat} {g : α → α} {R : Bm → α → Value → Prop} {f : Nat → Nat} {β β' : Bm} (hR : ∀ a x, RenOn f (ids a) β β' → R β a x → R β' (g a) x) : ∀ {ls : List α} {xs : List Value}, RenOn f (ls.flatMap ids) β β' → All2 (R β) ls xs → All2 (R β') (ls.map g) xs
  | [], [], _, _ => trivial
  | l :: ls, x :: xs, h, ⟨h1, h2⟩ => ⟨hR l x (fun id hid => h id (by simp [hid])) h1, all2_ren hR (fun id hid => h id (by simp only [List.flatMap_cons, List.mem_append]; exact .inr hid)) h2⟩
  | [], _ :: _, _, h => h.elim
  | _ :: _, [], _, h => h.elim
theorem W.rel_ren {f : Nat → Nat} {β β' : Bm} {w : W} (h : RenOn f w.ids β β') {x : Value} (hr : w.rel β x) : (w.ren f).rel β' x := by
  cases w with
  | one l => exact L.rel_ren h hr
  | agg ls => obtain ⟨cs, h1, h2⟩ := hr; exact ⟨cs, h1, all2_ren (R := fun β => L.rel β) (fun _ _ h hr => L.rel_ren h hr) h h2⟩
theorem V.rel_ren {f : Nat → Nat} {β β' : Bm} : ∀ {v : V}, RenOn f v.ids β β' → ∀ {x : Value}, v.rel β x → (v.ren f).rel β' x
  | .val _w, h, _x, hr => W.rel_ren h hr
  | .tup _ws, h, _x, ⟨cs, h1, h2⟩ => ⟨cs, h1, all2_ren (R := fun β => W.rel β) (fun _ _ h hr => W.rel_ren h hr) h h2⟩
  | .opt _ v, h, _x, hr => fun hc => V.rel_ren (v := v) h (hr hc)
theorem vs_ren {f : Nat → Nat} {β β' : Bm} {vs : List V} {xs : List Value} (h : RenOn f (vs.flatMap V.ids) β β') (hr : All2 (V.rel β) vs xs) : All2 (V.rel β') (vs.map (V.ren f)) xs :=
  all2_ren (R := fun β => V.rel β) (fun _ _ h hr => V.rel_ren h hr) h hr
theorem segsOk_ren {f : Nat → Nat} {β β' : Bm} {w : World} {b : Nat} : ∀ {segs : List Seg} {off : Nat}, RenOn f (segs.flatMap Seg.ids) β β' → segsOk β w b off segs → segsOk β' w b off (segs.map (Seg.ren f))
  | [], _, _, _ => trivial
  | .cells ls :: r, off, h, ⟨h1, h2⟩ => by
    refine ⟨fun j l hl => ?_, ?_⟩
    · simp only [List.getElem?_map] at hl
      cases hl0 : ls[j]? with
      | none => rw [hl0] at hl; cases hl
      | some l0 =>
        rw [hl0] at hl; cases hl
        obtain ⟨x, k1, k2⟩ := h1 j l0 hl0
        refine ⟨x, k1, L.rel_ren (fun id hid => h id ?_) k2⟩
        simp only [List.flatMap_cons, List.mem_append, Seg.ids]
        exact .inl (List.mem_flatMap.2 ⟨l0, List.mem_of_getElem? hl0, hid⟩)
    · rw [List.length_map]
      exact segsOk_ren (fun id hid => h id (by simp only [List.flatMap_cons, List.mem_append]; exact .inr hid)) h2
  | .arr n cols :: r, off, h, ⟨h1, h2⟩ => ⟨h1, segsOk_ren (fun id hid => h id (by simp only [List.flatMap_cons, List.mem_append]; exact .inr hid)) h2⟩
theorem Ob.ok_ren {f : Nat → Nat} {β β' : Bm} {w : World} : ∀ {o : Ob} {p : Pl}, RenOn f o.ids β β' → o.ok β w p → (o.ren f).ok β' w p
  | .mem _own _segs, .blk _b, h, ⟨h1, h2, h3⟩ => ⟨h1, segsOk_ren h h2, h3⟩
  | .mp _ _key _agg _has _cols, .blk _b, _, hk => hk
  | .mpl _ _key _agg _has _cols _, .blk _b, _, hk => hk
  | .itr _ _ _ _ _, .blk _b, h, ⟨h1, bm, sn, h2, h3⟩ => ⟨h1, bm, sn, h _ (by simp [Ob.ids]) _ h2, h3⟩
  | .mpl _ _ _ _ _ _, .val _, _, h => h.elim
  | .itr _ _ _ _ _, .val _, _, h => h.elim
  | .vec _own _e _n _cols, .val _x, _, hk => hk
  | .gone, _, _, _ => trivial
  | .mem _ _, .val _, _, h => h.elim
  | .mp _ _ _ _ _, .val _, _, h => h.elim
  | .vec _ _ _ _, .blk _, _, h => h.elim
theorem Ob.ren_own (f : Nat → Nat) (o : Ob) : (o.ren f).own = o.own := by cases o <;> rfl
theorem Ob.ren_gone (f : Nat → Nat) {o : Ob} (h : o ≠ .gone) : o.ren f ≠ .gone := by cases o <;> first | exact absurd rfl h | (intro e; cases e)
theorem Ob.gone_ren (f : Nat → Nat) {o : Ob} (h : o.ren f ≠ .gone) : o ≠ .gone := fun e => h (by rw [e]; rfl)

/-! ### one state stands for another one: nothing, where it is plain -/
def andO : Option Prop → Option Prop → Option Prop
  | none, x => x
  | some p, none => some p
  | some p, some q => some (p ∧ q)
theorem andO_ok {a b : Option Prop} (h : holdsP (andO a b)) : holdsP a ∧ holdsP b := by
  cases a with
  | none => exact ⟨trivial, h⟩
  | some p => cases b with
    | none => exact ⟨h, trivial⟩
    | some q => exact h
def checkO : Bool → Option Prop
  | true => none
  | false => some False
theorem checkO_ok {b : Bool} (h : holdsP (checkO b)) : b = true := by
  cases b with
  | true => rfl
  | false => exact h.elim
def subN : N → N → Option Prop
  | .lit a, .lit b => checkO (decide (a = b))
  | a, b => some (a.v = b.v)
theorem subN_ok {a b : N} (h : holdsP (subN a b)) : a.v = b.v := by
  unfold subN at h
  split at h
  · have := checkO_ok h; simpa [N.v] using this
  · exact h
def subB : B → B → Option Prop
  | .lit a, .lit b => checkO (a == b)
  | a, b => some (a.v = b.v)
theorem subB_ok {a b : B} (h : holdsP (subB a b)) : a.v = b.v := by
  unfold subB at h
  split at h
  · have := checkO_ok h; simpa [B.v] using this
  · exact h
def subL : L → L → Option Prop
  | _, .junk => none
  | .int k e, .int k' e' => match kindEq k k' with
    | true => subN e e'
    | false => some False
  | .bool e, .bool e' => subB e e'
  | .ptr i o, .ptr i' o' => checkO (Nat.beq i i' && Nat.beq o o')
  | .vec i, .vec i' => checkO (Nat.beq i i')
  | .map i, .map i' => checkO (Nat.beq i i')
  | l, l' => some (l = l')
theorem subL_ok {β : Bm} {l l' : L} (h : holdsP (subL l l')) {x : Value} (hx : l.rel β x) : l'.rel β x := by
  unfold subL at h
  split at h
  · trivial
  · split at h
    · rename_i hk
      have := kindEq_eq hk
      subst this
      simp only [L.rel] at hx ⊢; rw [hx, subN_ok h]
    · exact h.elim
  · simp only [L.rel] at hx ⊢; rw [hx, subB_ok h]
  · have hb := checkO_ok h
    simp only [Bool.and_eq_true] at hb
    rw [← Nat.eq_of_beq_eq_true hb.1, ← Nat.eq_of_beq_eq_true hb.2]; exact hx
  · rw [← Nat.eq_of_beq_eq_true (checkO_ok h)]; exact hx
  · rw [← Nat.eq_of_beq_eq_true (checkO_ok h)]; exact hx
  · have h : _ = _ := h
    rw [← h]; exact hx
/-- two lists, one by one -/
def sub2 {α : Type} (f : α → α → Option Prop) : List α → List α → Option Prop
  | [], [] => none
  | l :: ls, l' :: ls' => andO (f l l') (sub2 f ls ls')
  | _, _ => some False
theorem sub2_all {α : Type} {f : α → α → Option Prop} {R : α → Value → Prop} (hf : ∀ a b x, holdsP (f a b) → R a x → R b x) : ∀ {ls ls' : List α}, holdsP (sub2 f ls ls') → ∀ {xs : List Value}, All2 R ls xs → All2 R ls' xs
  | [], [], _, xs, hx => hx
  | l :: r, l' :: r', h, xs, hx => by
    cases xs with
    | nil => exact hx.elim
    | cons x xs =>
      obtain ⟨h1, h2⟩ := andO_ok h
      exact ⟨hf _ _ _ h1 hx.1, sub2_all hf h2 hx.2⟩
  | [], _ :: _, h, _, _ => h.elim
  | _ :: _, [], h, _, _ => h.elim
theorem sub2_get {α : Type} {f : α → α → Option Prop} : ∀ {ls ls' : List α}, holdsP (sub2 f ls ls') → ls.length = ls'.length ∧ ∀ (j : Nat) (l' : α), ls'[j]? = some l' → ∃ l, ls[j]? = some l ∧ holdsP (f l l')
  | [], [], _ => ⟨rfl, fun j l' h => by simp at h⟩
  | l :: r, l' :: r', h => by
    obtain ⟨h1, h2⟩ := andO_ok h
    obtain ⟨k1, k2⟩ := sub2_get h2
    refine ⟨by simp [k1], fun j m hm => ?_⟩
    cases j with
    | zero => simp at hm; subst hm; exact ⟨l, rfl, h1⟩
    | succ j => simpa using k2 j m (by simpa using hm)
  | [], _ :: _, h => h.elim
  | _ :: _, [], h => h.elim
def subW : W → W → Option Prop
  | _, .one .junk => none
  | .one l, .one l' => subL l l'
  | .agg ls, .agg ls' => sub2 subL ls ls'
  | _, _ => some False
theorem subW_ok {β : Bm} {w w' : W} (h : holdsP (subW w w')) {x : Value} (hx : w.rel β x) : w'.rel β x := by
  unfold subW at h
  split at h
  · trivial
  · exact subL_ok h hx
  · obtain ⟨cs, h1, h2⟩ := hx; exact ⟨cs, h1, sub2_all (R := L.rel β) (fun _ _ _ h hx => subL_ok h hx) h h2⟩
  · exact h.elim
def subV : V → V → Option Prop
  | _, .val (.one .junk) => none
  | .val w, .val w' => subW w w'
  | .tup ws, .tup ws' => sub2 subW ws ws'
  | _, _ => some False
theorem subV_ok {β : Bm} {v v' : V} (h : holdsP (subV v v')) {x : Value} (hx : v.rel β x) : v'.rel β x := by
  unfold subV at h
  split at h
  · trivial
  · exact subW_ok h hx
  · obtain ⟨cs, h1, h2⟩ := hx; exact ⟨cs, h1, sub2_all (R := W.rel β) (fun _ _ _ h hx => subW_ok h hx) h h2⟩
  · exact h.elim
/-- columns, as far as n goes -/
def subC (n : Nat) : Col → Col → Option Prop
  | .ints k g, .ints k' g' => match kindEq k k' with
    | true => some (∀ i, i < n → g i = g' i)
    | false => some False
  | .bools g, .bools g' => some (∀ i, i < n → g i = g' i)
  | .vals g, .vals g' => some (∀ i, i < n → g i = g' i)
  | _, _ => some False
theorem subC_ok {n : Nat} {c c' : Col} (h : holdsP (subC n c c')) {i : Nat} (hi : i < n) {x : Value} (hx : c.rel i x) : c'.rel i x := by
  unfold subC at h
  split at h
  · split at h
    · rename_i hk
      have := kindEq_eq hk
      subst this
      have h := h i hi
      simp only [Col.rel] at hx ⊢; rw [hx, h]
    · exact h.elim
  · have h := h i hi
    simp only [Col.rel] at hx ⊢; rw [hx, h]
  · have h := h i hi
    simp only [Col.rel] at hx ⊢; rw [hx, h]
  · exact h.elim
theorem subCs_row {w : World} {b off n : Nat} {cols cols' : List Col} (h : holdsP (sub2 (subC n) cols cols')) (hr : rowOk w b off n cols) : rowOk w b off n cols' := by
  obtain ⟨h1, h2⟩ := sub2_get h
  intro i hi j c hc
  obtain ⟨c0, k1, k2⟩ := h2 j c hc
  obtain ⟨x, k3, k4⟩ := hr i hi j c0 k1
  exact ⟨x, by rw [← h1]; exact k3, subC_ok k2 hi k4⟩
def subS : List Seg → List Seg → Option Prop
  | [], [] => none
  | .cells ls :: r, .cells ls' :: r' => andO (sub2 subL ls ls') (subS r r')
  | .arr n cs :: r, .arr n' cs' :: r' => andO (some (n = n')) (andO (sub2 (subC n) cs cs') (subS r r'))
  | _, _ => some False
theorem subS_ok {β : Bm} {w : World} {b : Nat} : ∀ {segs segs' : List Seg} {off : Nat}, holdsP (subS segs segs') → segsOk β w b off segs → segsOk β w b off segs'
  | [], [], _, _, h => h
  | .cells ls :: r, .cells ls' :: r', off, h, ⟨k1, k2⟩ => by
    obtain ⟨h1, h2⟩ := andO_ok h
    obtain ⟨l1, l2⟩ := sub2_get h1
    refine ⟨fun j l' hl' => ?_, by rw [← l1]; exact subS_ok h2 k2⟩
    obtain ⟨l, m1, m2⟩ := l2 j l' hl'
    obtain ⟨x, x1, x2⟩ := k1 j l m1
    exact ⟨x, x1, subL_ok m2 x2⟩
  | .arr n cs :: r, .arr n' cs' :: r', off, h, ⟨k1, k2⟩ => by
    obtain ⟨h1, h2⟩ := andO_ok h
    obtain ⟨h2, h3⟩ := andO_ok h2
    have h1 : n = n' := h1
    subst h1
    exact ⟨subCs_row h2 k1, by rw [← (sub2_get h2).1]; exact subS_ok h3 k2⟩
  | [], .cells _ :: _, _, h, _ => h.elim
  | [], .arr _ _ :: _, _, h, _ => h.elim
  | .cells _ :: _, [], _, h, _ => h.elim
  | .arr _ _ :: _, [], _, h, _ => h.elim
  | .cells _ :: _, .arr _ _ :: _, _, h, _ => h.elim
  | .arr _ _ :: _, .cells _ :: _, _, h, _ => h.elim
def subK (has : Int → Bool) : KCol → KCol → Option Prop
  | .ints k g, .ints k' g' => match kindEq k k' with
    | true => some (∀ i, has i = true → g i = g' i)
    | false => some False
  | .bools g, .bools g' => some (∀ i, has i = true → g i = g' i)
  | _, _ => some False
theorem subK_ok {has : Int → Bool} {c c' : KCol} (h : holdsP (subK has c c')) {i : Int} (hi : has i = true) {x : Value} (hx : c.rel i x) : c'.rel i x := by
  unfold subK at h
  split at h
  · split at h
    · rename_i hk
      have := kindEq_eq hk
      subst this
      have h := h i hi
      simp only [KCol.rel] at hx ⊢; rw [hx, h]
    · exact h.elim
  · have h := h i hi
    simp only [KCol.rel] at hx ⊢; rw [hx, h]
  · exact h.elim
theorem kval_sub {has : Int → Bool} {agg : Bool} {cols cols' : List KCol} (h : holdsP (sub2 (subK has) cols cols')) {k : Int} (hk : has k = true) {x : Value} (hx : kval agg cols k x) : kval agg cols' k x := by
  obtain ⟨h1, h2⟩ := sub2_get h
  unfold kval at hx ⊢
  split at hx
  · rename_i ha
    rw [if_pos ha]
    obtain ⟨cs, rfl, hsz, hc⟩ := hx
    refine ⟨cs, rfl, by omega, fun j c hcj => ?_⟩
    obtain ⟨c0, k1, k2⟩ := h2 j c hcj
    obtain ⟨y, hy, hry⟩ := hc j c0 k1
    exact ⟨y, hy, subK_ok k2 hk hry⟩
  · rename_i ha
    rw [if_neg ha]
    obtain ⟨c0, rfl, hr⟩ := hx
    cases cols' with
    | nil => simp at h1
    | cons c r =>
      cases r with
      | cons _ _ => simp at h1
      | nil =>
        obtain ⟨c1, k1, k2⟩ := h2 0 c rfl
        simp at k1; subst k1
        exact ⟨c, rfl, subK_ok k2 hk hr⟩
def subO : Ob → Ob → Option Prop
  | _, .gone => none
  | .mem o segs, .mem o' segs' => match o == o' with
    | true => subS segs segs'
    | false => some False
  | .mp o k a has cols, .mp o' k' a' has' cols' => match o == o' && kindEq k k' && a == a' with
    | true => andO (some (∀ i, has i = has' i)) (sub2 (subK has) cols cols')
    | false => some False
  | .vec o e n cols, .vec o' e' n' cols' => match o == o' && Nat.beq e e' with
    | true => andO (some (n = n')) (sub2 (subC n) cols cols')
    | false => some False
  | .mpl o k a has cols _, .mp o' k' a' has' cols' => match o == o' && kindEq k k' && a == a' with
    | true => andO (some (∀ i, has i = has' i)) (sub2 (subK has) cols cols')
    | false => some False
  | .mpl o k a has cols g, .mpl o' k' a' has' cols' g' => match o == o' && kindEq k k' && a == a' with
    | true => andO (some ((∀ i, has i = has' i) ∧ g = g')) (sub2 (subK has) cols cols')
    | false => some False
  | .itr o m g seen _, .itr o' m' g' seen' none => match o == o' && Nat.beq m m' with
    | true => some (g = g' ∧ ∀ i, g.dom i = true → seen i = seen' i)
    | false => some False
  | _, _ => some False
theorem mapOk_sub {key : IntKind} {agg : Bool} {has has' : Int → Bool} {cols cols' : List KCol} {es : Array MapEntry} {clock : Nat} (hh : ∀ i, has i = has' i) (hc : holdsP (sub2 (subK has) cols cols')) (h3 : mapOk key agg has cols es clock) : mapOk key agg has' cols' es clock :=
  ⟨fun e he => by
      obtain ⟨k, q1, q2, q3⟩ := h3.keys e he
      exact ⟨k, q1, by rw [← hh]; exact q2, kval_sub hc q2 q3⟩, fun k hk => h3.all k (by rw [hh]; exact hk), h3.once, h3.born, h3.apart⟩
theorem subO_ok {β : Bm} {w : World} {p : Pl} {o o' : Ob} (h : holdsP (subO o o')) (hok : o.ok β w p) : o'.ok β w p ∧ (o' ≠ .gone → o'.own = o.own ∧ o ≠ .gone) := by
  unfold subO at h
  split at h
  · exact ⟨trivial, fun h => absurd rfl h⟩
  · split at h
    · rename_i hb
      simp only [beq_iff_eq] at hb
      subst hb
      cases p with
      | val _ => exact hok.elim
      | blk b => exact ⟨⟨hok.1, subS_ok h hok.2.1, hok.2.2⟩, fun _ => ⟨rfl, fun h => by cases h⟩⟩
    · exact h.elim
  · split at h
    · rename_i hb
      simp only [Bool.and_eq_true, beq_iff_eq] at hb
      obtain ⟨⟨rfl, hk⟩, rfl⟩ := hb
      have := kindEq_eq hk
      subst this
      obtain ⟨hh, hc⟩ := andO_ok h
      have hh : ∀ i, _ = _ := hh
      cases p with
      | val _ => exact hok.elim
      | blk b =>
        obtain ⟨h1, es, clock, h2, h3⟩ := hok
        exact ⟨⟨h1, es, clock, h2, mapOk_sub hh hc h3⟩, fun _ => ⟨rfl, fun h => by cases h⟩⟩
    · exact h.elim
  · split at h
    · rename_i hb
      simp only [Bool.and_eq_true, beq_iff_eq] at hb
      obtain ⟨rfl, he⟩ := hb
      have := Nat.eq_of_beq_eq_true he
      subst this
      obtain ⟨hn, hc⟩ := andO_ok h
      have hn : _ = _ := hn
      subst hn
      cases p with
      | blk _ => exact hok.elim
      | val x =>
        obtain ⟨h0, h1⟩ := hok
        refine ⟨⟨h0, ?_⟩, fun _ => ⟨rfl, fun h => by cases h⟩⟩
        rcases h1 with h1 | ⟨b, off, cap, q1, q2, q3, q4, q5⟩
        · exact .inl h1
        · exact .inr ⟨b, off, cap, q1, q2, q3, subCs_row hc q4, fun ho => by rw [← (sub2_get hc).1]; exact q5 ho⟩
    · exact h.elim
  · split at h
    · rename_i hb
      simp only [Bool.and_eq_true, beq_iff_eq] at hb
      obtain ⟨⟨rfl, hk⟩, rfl⟩ := hb
      have := kindEq_eq hk
      subst this
      obtain ⟨hh, hc⟩ := andO_ok h
      cases p with
      | val _ => exact hok.elim
      | blk b =>
        obtain ⟨h1, es, h2, h3, _⟩ := hok
        exact ⟨⟨h1, es, _, h2, mapOk_sub hh hc h3⟩, fun _ => ⟨rfl, fun h => by cases h⟩⟩
    · exact h.elim
  · split at h
    · rename_i hb
      simp only [Bool.and_eq_true, beq_iff_eq] at hb
      obtain ⟨⟨rfl, hk⟩, rfl⟩ := hb
      have := kindEq_eq hk
      subst this
      obtain ⟨⟨hh, rfl⟩, hc⟩ := andO_ok h
      cases p with
      | val _ => exact hok.elim
      | blk b =>
        obtain ⟨h1, es, h2, h3, h4⟩ := hok
        exact ⟨⟨h1, es, h2, mapOk_sub hh hc h3, ⟨h4.at_, fun k hk => h4.dom k (by rw [hh]; exact hk), h4.inj⟩⟩, fun _ => ⟨rfl, fun h => by cases h⟩⟩
    · exact h.elim
  · split at h
    · rename_i hb
      simp only [Bool.and_eq_true, beq_iff_eq] at hb
      obtain ⟨rfl, hm⟩ := hb
      have := Nat.eq_of_beq_eq_true hm
      subst this
      obtain ⟨rfl, hs⟩ := h
      cases p with
      | val _ => exact hok.elim
      | blk b =>
        obtain ⟨h1, bm, sn, h2, h3, h4, _⟩ := hok
        exact ⟨⟨h1, bm, sn, h2, h3, fun k hk => by rw [← hs k hk]; exact h4 k hk, fun k hk => by cases hk⟩, fun _ => ⟨rfl, fun h => by cases h⟩⟩
    · exact h.elim
  · exact h.elim
def subTs : List V → List V → Option Prop := sub2 subV
def subMs : List Ob → List Ob → Option Prop
  | _, [] => none
  | o :: os, o' :: os' => andO (subO o o') (subMs os os')
  | [], _ :: _ => some False
theorem subTs_get {ls ls' : List V} (h : holdsP (subTs ls ls')) : ls.length = ls'.length ∧ ∀ (j : Nat), holdsP (subV (lget (.val (.one .junk)) ls j) (lget (.val (.one .junk)) ls' j)) := by
  obtain ⟨h1, h2⟩ := sub2_get h
  refine ⟨h1, fun j => ?_⟩
  by_cases hj : j < ls'.length
  · obtain ⟨l, k1, k2⟩ := h2 j _ (List.getElem?_eq_getElem hj)
    simp only [lget_eq, List.getD_eq_getElem?_getD, k1, List.getElem?_eq_getElem hj, Option.getD_some]
    exact k2
  · simp only [lget_eq, List.getD_eq_getElem?_getD, List.getElem?_eq_none (by omega : ls'.length ≤ j), Option.getD_none]
    trivial
theorem subMs_get : ∀ {ls ls' : List Ob}, holdsP (subMs ls ls') → ∀ (j : Nat) (o' : Ob), ls'[j]? = some o' → ∃ o, ls[j]? = some o ∧ holdsP (subO o o')
  | _, [], _, j, o', h => by simp at h
  | o :: os, o0 :: os', h, j, o', ho' => by
    obtain ⟨h1, h2⟩ := andO_ok h
    cases j with
    | zero => simp at ho'; subst ho'; exact ⟨o, rfl, h1⟩
    | succ j => simpa using subMs_get h2 j o' (by simpa using ho')
  | [], _ :: _, h, _, _, _ => h.elim
/-- what the state names, it has -/
def St.closed (σ : St) : Bool := σ.tmps.all (fun v => belowB σ.mem.length v.ids) && σ.mem.all (fun o => belowB σ.mem.length o.ids)
def toP : Option Prop → Prop
  | none => True
  | some p => p
theorem toP_ok {o : Option Prop} (h : toP o) : holdsP o := by cases o <;> exact h
def sub0 (E : Nat) (σ σ' : St) : Prop := match σ'.closed && Nat.ble E σ'.mem.length with
  | true => toP (andO (subTs σ.tmps σ'.tmps) (subMs σ.mem σ'.mem))
  | false => False
def trunc (m : Nat) (β : Bm) : Bm := fun i => if i < m then β i else none
theorem trunc_le (m : Nat) (β : Bm) : (trunc m β).le β := fun i p hp => by
  unfold trunc at hp
  split at hp
  · exact hp
  · cases hp
theorem trunc_on {m : Nat} {l : List Nat} (h : belowB m l = true) (β : Bm) : Bm.on l β (trunc m β) := fun id hid p hp => by
  have := belowB_ok h id hid
  unfold trunc
  rw [if_pos this]; exact hp
/-- objects that stand for others -/
theorem sub_mem {X : Cx} {D : Dx} {β : Bm} {s : S} {a : Act} {w : World} (hB : RepB X D β s a w) {ms ms' : List Ob} (hs : s.blk = fun id => ms[id]?) (hm : holdsP (subMs ms ms')) (hcl : ∀ o ∈ ms', belowB ms'.length o.ids = true) (hG : X.G.length ≤ ms'.length) :
    (∀ id o, ms'[id]? = some o → ∃ p, trunc ms'.length β id = some p ∧ o.ok (trunc ms'.length β) w p ∧ (o.own = true → D.may p)) ∧ (∀ id p, trunc ms'.length β id = some p → ∃ o, ms'[id]? = some o) ∧
    (∀ id id' o o' p p' b, ms'[id]? = some o → ms'[id']? = some o' → o.own = true → o' ≠ .gone → trunc ms'.length β id = some p → trunc ms'.length β id' = some p' → p.foot = some b → p'.foot = some b → id = id') ∧
    (∀ i g, X.G[i]? = some g → trunc ms'.length β i = some (.blk g.1)) := by
  have hm := subMs_get hm
  refine ⟨fun id o ho => ?_, fun id p hp => ?_, fun i i' o o' p p' b ho ho' how hng hp hp' hf hf' => ?_, fun i g hg => ?_⟩
  · obtain ⟨o0, k1, k2⟩ := hm id o ho
    obtain ⟨p, q1, q2, q3⟩ := hB.mem id o0 (by rw [hs]; exact k1)
    obtain ⟨r1, r2⟩ := subO_ok k2 q2
    have hlt : id < ms'.length := (List.getElem?_eq_some_iff.1 ho).1
    refine ⟨p, by unfold trunc; rw [if_pos hlt]; exact q1, Ob.ok_on (trunc_on (hcl o (List.mem_of_getElem? ho)) β) r1, fun how => ?_⟩
    exact q3 (by rw [← (r2 (fun e => by rw [e] at how; cases how)).1]; exact how)
  · unfold trunc at hp
    split at hp
    · rename_i hlt; exact ⟨_, List.getElem?_eq_getElem hlt⟩
    · cases hp
  · obtain ⟨o1, k1, k2⟩ := hm i o ho
    obtain ⟨o2, k3, k4⟩ := hm i' o' ho'
    obtain ⟨pp, q1, q2, _⟩ := hB.mem i o1 (by rw [hs]; exact k1)
    obtain ⟨pp', q3, q4, _⟩ := hB.mem i' o2 (by rw [hs]; exact k3)
    have e1 := (subO_ok k2 q2).2 (fun e => by rw [e] at how; cases how)
    have e2 := (subO_ok k4 q4).2 hng
    exact hB.inj i i' o1 o2 p p' b (by rw [hs]; exact k1) (by rw [hs]; exact k3) (by rw [← e1.1]; exact how) e2.2 (trunc_le _ _ _ _ hp) (trunc_le _ _ _ _ hp') hf hf'
  · obtain ⟨k1, _⟩ := hB.glob i g hg
    have : i < X.G.length := (List.getElem?_eq_some_iff.1 hg).1
    unfold trunc
    rw [if_pos (by omega)]; exact k1
theorem sub0_rep {X : Cx} {D : Dx} {E : Nat} {σ σ' : St} (h : sub0 E σ σ') (hb0 : ∀ i p, D.b0 i = some p → i < E) (hG : X.G.length ≤ E) (hn : σ.tmps.length = X.n) {a : Act} {w : World} (hR : Rep X D (view σ) a w) : Rep X D (view σ') a w ∧ σ'.tmps.length = X.n := by
  unfold sub0 at h
  split at h
  · rename_i hcl
    simp only [Bool.and_eq_true] at hcl
    obtain ⟨hcl, hE⟩ := hcl
    have hE := Nat.le_of_ble_eq_true hE
    unfold St.closed at hcl
    simp only [Bool.and_eq_true, List.all_eq_true] at hcl
    obtain ⟨hc, β, hb, hB⟩ := hR
    obtain ⟨hs1, hs2⟩ := andO_ok (toP_ok h)
    obtain ⟨t1, t2⟩ := subTs_get hs1
    obtain ⟨m1, m2, m3, m4⟩ := sub_mem hB rfl hs2 hcl.2 (by omega)
    refine ⟨⟨hc, trunc σ'.mem.length β, fun i p hp => ?_, ?_⟩, by omega⟩
    · unfold trunc
      rw [if_pos (by have := hb0 i p hp; omega)]; exact hb i p hp
    · refine ⟨hB.size, fun t => ?_, hB.defers, m1, m2, m3, fun i g hg => ?_⟩
      · have h1 := subV_ok (t2 t) (hB.tmps t)
        by_cases htl : t < σ'.tmps.length
        · refine V.rel_on (trunc_on ?_ β) h1
          simp only [view, lget_eq, List.getD_eq_getElem?_getD, List.getElem?_eq_getElem htl, Option.getD_some]
          exact hcl.1 _ (List.getElem_mem htl)
        · simp only [view, lget_eq, List.getD_eq_getElem?_getD, List.getElem?_eq_none (by omega : σ'.tmps.length ≤ t), Option.getD_none]
          trivial
      · obtain ⟨_, k2, k3, k4⟩ := hB.glob i g hg
        exact ⟨m4 i g hg, k2, k3, k4⟩
  · exact h.elim

/-! ### the same state by other numbers -/
def zipIds : List Nat → List Nat → List (Nat × Nat)
  | k :: ks, j :: js => (k, j) :: zipIds ks js
  | _, _ => []
def pairV (a b : V) : List (Nat × Nat) := zipIds a.ids b.ids
def pairTs : List V → List V → List (Nat × Nat)
  | a :: as, b :: bs => pairV a b ++ pairTs as bs
  | _, _ => []
def pairs (hm sm : List Ob) : Nat → List (Nat × Nat) → List (Nat × Nat) → List (Nat × Nat)
  | 0, _, acc => acc
  | _ + 1, [], acc => acc
  | n + 1, p :: r, acc => if acc.any (fun q => Nat.beq q.1 p.1) then pairs hm sm n r acc else (match hm[p.1]?, sm[p.2]? with
    | some o, some o' => pairs hm sm n (zipIds o.ids o'.ids ++ r) (p :: acc)
    | _, _ => pairs hm sm n r acc)
def toOld (ps : List (Nat × Nat)) (k : Nat) : Nat := match ps with
  | [] => k
  | p :: r => if Nat.beq p.1 k then p.2 else toOld r k
def toNew (ps : List (Nat × Nat)) (j : Nat) : Nat := match ps with
  | [] => j
  | p :: r => if Nat.beq p.2 j then p.1 else toNew r j
def isGone : Option Ob → Bool
  | some .gone => true
  | _ => false
/-- an old number has a new one -/
def okId (ps : List (Nat × Nat)) (m : Nat) (j : Nat) : Bool := Nat.blt (toNew ps j) m && Nat.beq (toOld ps (toNew ps j)) j
def renT (ps : List (Nat × Nat)) (m : Nat) (v : V) : V := if v.ids.all (okId ps m) then v.ren (toNew ps) else .val (.one .junk)
def takeObs (tm : List Ob) (ps : List (Nat × Nat)) (m : Nat) (sm : List Ob) : Nat → Nat → Option (List Ob)
  | 0, _ => some []
  | n + 1, k => match sm[toOld ps k]? with
    | some o => (match isGone tm[k]? with
      | true => (match takeObs tm ps m sm n (k + 1) with | some r => some (.gone :: r) | none => none)
      | false => if o.ids.all (okId ps m) then (match takeObs tm ps m sm n (k + 1) with | some r => some (o.ren (toNew ps) :: r) | none => none) else none)
    | none => none
def distinct (tm : List Ob) : Nat → Nat → List (Nat × Nat) → List Nat → Bool
  | 0, _, _, _ => true
  | n + 1, k, ps, seen => match isGone tm[k]? with
    | true => distinct tm n (k + 1) ps seen
    | false => !seen.any (Nat.beq (toOld ps k)) && distinct tm n (k + 1) ps (toOld ps k :: seen)
def fixedTo (ps : List (Nat × Nat)) : Nat → Bool
  | 0 => true
  | n + 1 => Nat.beq (toOld ps n) n && fixedTo ps n
def idPairs : Nat → List (Nat × Nat)
  | 0 => []
  | n + 1 => idPairs n ++ [(n, n)]
/-- what is gone comes last -/
def goneLast (tm : List Ob) (ps : List (Nat × Nat)) : List (Nat × Nat) := ps.filter (fun p => !isGone tm[p.1]?) ++ ps.filter (fun p => isGone tm[p.1]?)
def renSt (E : Nat) (σ σ' : St) : Option St := match goneLast σ'.mem (pairs σ'.mem σ.mem 1024 (idPairs E ++ pairTs σ'.tmps σ.tmps) []) with
  | ps => match takeObs σ'.mem ps σ'.mem.length σ.mem σ'.mem.length 0 with
    | some ms => if distinct σ'.mem σ'.mem.length 0 ps [] && fixedTo ps E && Nat.ble E σ'.mem.length then some ⟨σ.tmps.map (renT ps σ'.mem.length), ms⟩ else none
    | none => none
theorem takeObs_ok {tm : List Ob} {ps : List (Nat × Nat)} {m : Nat} {sm : List Ob} : ∀ {n k : Nat} {ms : List Ob}, takeObs tm ps m sm n k = some ms → ms.length = n ∧ ∀ (i : Nat) (o' : Ob), ms[i]? = some o' → ∃ o, sm[toOld ps (k + i)]? = some o ∧
    ((isGone tm[k + i]? = true ∧ o' = .gone) ∨ (isGone tm[k + i]? = false ∧ o.ids.all (okId ps m) = true ∧ o' = o.ren (toNew ps)))
  | 0, k, ms, h => by cases h; exact ⟨rfl, fun i o h => by simp at h⟩
  | n + 1, k, ms, h => by
    unfold takeObs at h
    split at h
    · rename_i o ho
      split at h
      · rename_i hg
        split at h
        · rename_i r hr
          cases h
          obtain ⟨k1, k2⟩ := takeObs_ok hr
          refine ⟨by simp [k1], fun i o' hi => ?_⟩
          cases i with
          | zero => simp at hi; subst hi; exact ⟨o, ho, .inl ⟨hg, rfl⟩⟩
          | succ i =>
            obtain ⟨o2, q1, q2⟩ := k2 i o' (by simpa using hi)
            rw [show k + (i + 1) = k + 1 + i by omega]
            exact ⟨o2, q1, q2⟩
        · cases h
      · rename_i hg
        split at h
        · rename_i hok
          split at h
          · rename_i r hr
            cases h
            obtain ⟨k1, k2⟩ := takeObs_ok hr
            refine ⟨by simp [k1], fun i o' hi => ?_⟩
            cases i with
            | zero => simp at hi; subst hi; exact ⟨o, ho, .inr ⟨hg, hok, rfl⟩⟩
            | succ i =>
              obtain ⟨o2, q1, q2⟩ := k2 i o' (by simpa using hi)
              rw [show k + (i + 1) = k + 1 + i by omega]
              exact ⟨o2, q1, q2⟩
          · cases h
        · cases h
    · cases h
theorem distinct_ok {tm : List Ob} : ∀ {n k : Nat} {ps : List (Nat × Nat)} {seen : List Nat}, distinct tm n k ps seen = true → (∀ i, k ≤ i → i < k + n → isGone tm[i]? = false → ∀ x ∈ seen, toOld ps i ≠ x) ∧
    ∀ i j, k ≤ i → i < k + n → k ≤ j → j < k + n → isGone tm[i]? = false → isGone tm[j]? = false → toOld ps i = toOld ps j → i = j
  | 0, k, ps, seen, _ => ⟨fun i h1 h2 => by omega, fun i j h1 h2 => by omega⟩
  | n + 1, k, ps, seen, h => by
    unfold distinct at h
    split at h
    · rename_i hg
      obtain ⟨k1, k2⟩ := distinct_ok h
      refine ⟨fun i a b hi x hx => ?_, fun i j a b c d hi hj e => ?_⟩
      · rcases Nat.eq_or_lt_of_le a with rfl | hlt
        · rw [hg] at hi; cases hi
        · exact k1 i (by omega) (by omega) hi x hx
      · rcases Nat.eq_or_lt_of_le a with rfl | hlt
        · rw [hg] at hi; cases hi
        · rcases Nat.eq_or_lt_of_le c with rfl | hlt2
          · rw [hg] at hj; cases hj
          · exact k2 i j (by omega) (by omega) (by omega) (by omega) hi hj e
    · simp only [Bool.and_eq_true, Bool.not_eq_true', List.any_eq_false] at h
      obtain ⟨h1, h2⟩ := h
      obtain ⟨k1, k2⟩ := distinct_ok h2
      have hno : ∀ x ∈ seen, toOld ps k ≠ x := fun x hx e => by
        have := h1 x hx
        rw [e, Nat.beq_refl] at this; exact this rfl
      refine ⟨fun i a b hgi x hx => ?_, fun i j a b c d hgi hgj e => ?_⟩
      · rcases Nat.eq_or_lt_of_le a with rfl | hlt
        · exact hno x hx
        · exact k1 i (by omega) (by omega) hgi x (by simp [hx])
      · rcases Nat.eq_or_lt_of_le a with rfl | hi
        · rcases Nat.eq_or_lt_of_le c with rfl | hj
          · rfl
          · exact absurd e.symm (k1 j (by omega) (by omega) hgj _ (by simp))
        · rcases Nat.eq_or_lt_of_le c with rfl | hj
          · exact absurd e (k1 i (by omega) (by omega) hgi _ (by simp))
          · exact k2 i j (by omega) (by omega) (by omega) (by omega) hgi hgj e
theorem fixedTo_ok {ps : List (Nat × Nat)} : ∀ {n : Nat}, fixedTo ps n = true → ∀ i, i < n → toOld ps i = i
  | 0, _, i, h => by omega
  | n + 1, h, i, hi => by
    simp only [fixedTo, Bool.and_eq_true] at h
    by_cases e : i = n
    · subst e; exact Nat.eq_of_beq_eq_true h.1
    · exact fixedTo_ok h.2 i (by omega)
theorem renSt_ok {X : Cx} {D : Dx} {E : Nat} {σ σ' σ2 : St} (h : renSt E σ σ' = some σ2) (hb0 : ∀ i p, D.b0 i = some p → i < E) (hG : X.G.length ≤ E) {a : Act} {w : World} (hR : Rep X D (view σ) a w) : Rep X D (view σ2) a w ∧ σ2.tmps.length = σ.tmps.length := by
  unfold renSt at h
  generalize goneLast σ'.mem (pairs σ'.mem σ.mem 1024 (idPairs E ++ pairTs σ'.tmps σ.tmps) []) = ps at h
  simp only at h
  split at h
  · rename_i ms hms
    split at h
    · rename_i hc
      simp only [Bool.and_eq_true] at hc
      cases h
      obtain ⟨⟨hd, hf⟩, hE⟩ := hc
      have hE := Nat.le_of_ble_eq_true hE
      obtain ⟨hl, ho⟩ := takeObs_ok hms
      obtain ⟨_, hdis⟩ := distinct_ok hd
      have hfix := fixedTo_ok hf
      obtain ⟨hcg, β, hb, hB⟩ := hR
      let m := σ'.mem.length
      let β2 : Bm := fun k => if k < m then β (toOld ps k) else none
      have hβ2 : ∀ k, k < m → β2 k = β (toOld ps k) := fun k hk => by show (if k < m then _ else _) = _; rw [if_pos hk]
      have hren : ∀ l : List Nat, l.all (okId ps m) = true → RenOn (toNew ps) l β β2 := fun l hl id hid p hp => by
        have h1 := List.all_eq_true.1 hl id hid
        simp only [okId, Bool.and_eq_true] at h1
        have h2 : toNew ps id < m := by simpa using h1.1
        rw [hβ2 _ h2, Nat.eq_of_beq_eq_true h1.2]; exact hp
      have hobj : ∀ id o', ms[id]? = some o' → id < m ∧ ∃ o, σ.mem[toOld ps id]? = some o ∧ ((isGone σ'.mem[id]? = true ∧ o' = .gone) ∨ (isGone σ'.mem[id]? = false ∧ o.ids.all (okId ps m) = true ∧ o' = o.ren (toNew ps))) := fun id o' hid => by
        have hlt := (List.getElem?_eq_some_iff.1 hid).1
        obtain ⟨o, h1, h2⟩ := ho id o' hid
        rw [Nat.zero_add] at h1 h2
        exact ⟨by omega, o, h1, h2⟩
      refine ⟨⟨hcg, β2, fun i p hp => ?_, ⟨hB.size, fun t => ?_, hB.defers, fun id o' hid => ?_, fun id p hp => ?_, fun i i' o o' p p' b hi hi' how hng hp hp' hff hff' => ?_, fun i g hg => ?_⟩⟩, by simp⟩
      · have := hb0 i p hp
        rw [hβ2 i (by omega), hfix i this]; exact hb i p hp
      · simp only [view, lget_eq, List.getD_eq_getElem?_getD, List.getElem?_map]
        have h1 := hB.tmps t
        simp only [view, lget_eq, List.getD_eq_getElem?_getD] at h1
        cases hv : σ.tmps[t]? with
        | none => simp only [Option.map_none, Option.getD_none]; trivial
        | some v =>
          rw [hv] at h1
          simp only [Option.map_some, Option.getD_some] at h1 ⊢
          unfold renT
          split
          · rename_i hall; exact V.rel_ren (hren _ hall) h1
          · trivial
      · simp only [view] at hid
        obtain ⟨hlt, o, h1, h2⟩ := hobj id o' hid
        obtain ⟨p, q1, q2, q3⟩ := hB.mem _ o (by simpa [view] using h1)
        rcases h2 with ⟨_, rfl⟩ | ⟨_, h2, rfl⟩
        · exact ⟨p, by rw [hβ2 id hlt]; exact q1, trivial, fun how => by cases how⟩
        · exact ⟨p, by rw [hβ2 id hlt]; exact q1, Ob.ok_ren (hren _ h2) q2, fun how => q3 (by rw [Ob.ren_own] at how; exact how)⟩
      · have hp2 : (if id < m then β (toOld ps id) else none) = some p := hp
        split at hp2
        · rename_i hlt; exact ⟨_, by simp only [view]; exact List.getElem?_eq_getElem (by omega)⟩
        · cases hp2
      · simp only [view] at hi hi'
        obtain ⟨l1, o1, h1, e1⟩ := hobj i o hi
        obtain ⟨l2, o2, h2, e2⟩ := hobj i' o' hi'
        rcases e1 with ⟨_, rfl⟩ | ⟨g1, _, rfl⟩
        · cases how
        rcases e2 with ⟨_, rfl⟩ | ⟨g2, _, rfl⟩
        · exact absurd rfl hng
        rw [hβ2 i l1] at hp
        rw [hβ2 i' l2] at hp'
        rw [Ob.ren_own] at how
        have := hB.inj _ _ o1 o2 p p' b (by simpa [view] using h1) (by simpa [view] using h2) how (Ob.gone_ren _ hng) hp hp' hff hff'
        exact hdis i i' (Nat.zero_le _) (by omega) (Nat.zero_le _) (by omega) g1 g2 this
      · obtain ⟨k1, k2, k3, k4⟩ := hB.glob i g hg
        have : i < X.G.length := (List.getElem?_eq_some_iff.1 hg).1
        exact ⟨by rw [hβ2 i (by omega), hfix i (by omega)]; exact k1, k2, k3, k4⟩
    · cases h
  · cases h
def sub (E : Nat) (σ σ' : St) : Prop := match renSt E σ σ' with
  | some σ2 => sub0 E σ2 σ'
  | none => False
theorem sub_rep {X : Cx} {D : Dx} {E : Nat} {σ σ' : St} (h : sub E σ σ') (hb0 : ∀ i p, D.b0 i = some p → i < E) (hG : X.G.length ≤ E) (hn : σ.tmps.length = X.n) {a : Act} {w : World} (hR : Rep X D (view σ) a w) : Rep X D (view σ') a w ∧ σ'.tmps.length = X.n := by
  unfold sub at h
  split at h
  · rename_i σ2 h2
    obtain ⟨h3, h4⟩ := renSt_ok h2 hb0 hG hR
    exact sub0_rep h hb0 hG (by omega) h3
  · exact h.elim

/-! ### code -/
/-- a loop's invariant: the states at its head, what holds of them, what falls -/
structure Ann where
  X : Type
  st : St → X → St
  I : St → X → Prop
  μ : X → Nat
structure Anns where
  loops : List Ann
  cuts : List (Nat × Ann)
  joins : List (Nat × Ann)
/-- one operation, and what comes behind it -/
noncomputable def stepSeq (P : Program) (G : List (Nat × List L)) (call : CallH) (n : Nat) (ops : Array Oper) (K : Kn → List V → List Ob → Prop) (o : Oper) (kn : Kn) (ts : List V) (ms : List Ob) : Prop :=
  match (match guardC ops.toList (view ⟨ts, ms⟩) kn o with
      | none => none
      | some c => (match specOf P G call (view ⟨ts, ms⟩) kn o ms.length c with
        | none => none
        | some q => (match appT n ts o.dst (.opt c q.2.v) with
          | none => none
          | some ts' => some (c, q, ts')))) with
    | some (_, q, ts') => andP q.1 (K (knOff kn o.dst) ts' ms)
    | none => match wantedBy ops.toList (view ⟨ts, ms⟩) kn o with
      | none => False
      | some l => allG (fun want kn' => match want with
        | true => (match argsOf G (view ⟨ts, ms⟩) kn' o.op.operands.toList with
          | none => False
          | some args => (match dynOf P o.op args (view ⟨ts, ms⟩) ms.length with
            | some d => ∀ x, allP (fun e => match appT n ts o.dst e.v, appM ms e.wr with
              | some ts', some ms' => K (knOff kn' o.dst) ts' ms'
              | _, _ => False) (d.f x)
            | none => (match effsB P call o.op o.type args (view ⟨ts, ms⟩) ms.length with
              | none => False
              | some ps => allP (fun e => match appT n ts o.dst e.v, appM ms e.wr with
                | some ts', some ms' => K (knOff kn' o.dst) ts' ms'
                | _, _ => False) ps)))
        | false => (match appT n ts o.dst undefV with
          | some ts' => K (knOff kn' o.dst) ts' ms
          | none => False)) l
/-- a state that stands for all that hold to it, ahead of an operation -/
def cutAt (cuts : List (Nat × Ann)) (o : Oper) : Option Ann := match o.dst with
  | none => none
  | some t => match cuts.find? (fun p => Nat.beq p.1 t) with
    | some p => some p.2
    | none => none
/-- the same one after the other: a way may hang on the run -/
noncomputable def runSeq (P : Program) (G : List (Nat × List L)) (call : CallH) (n E : Nat) (cuts : List (Nat × Ann)) (ops : Array Oper) (K : List V → List Ob → Prop) : List Oper → Kn → List V → List Ob → Prop
  | [], _, ts, ms => K ts ms
  | o :: rest, kn, ts, ms => match cutAt cuts o with
    | none => stepSeq P G call n ops (runSeq P G call n E cuts ops K rest) o kn ts ms
    | some A => (∃ x, A.I ⟨ts, ms⟩ x ∧ sub E ⟨ts, ms⟩ (A.st ⟨ts, ms⟩ x)) ∧ ∀ x, A.I ⟨ts, ms⟩ x → stepSeq P G call n ops (runSeq P G call n E cuts ops K rest) o [] (A.st ⟨ts, ms⟩ x).tmps (A.st ⟨ts, ms⟩ x).mem
noncomputable def genRegion (P : Program) (G : List (Nat × List L)) (call : CallH) (n : Nat) (E : Nat) (cuts : List (Nat × Ann)) (ops : Array Oper) (draw : Bool) (σ : St) (K : St → Prop) : Prop :=
  match draw with
  | true => runOps P G call n ops (fun ts ms ws => match P.follows .mixedOrders && earlier ops.toList && ordered (befores ops.toList) 0 ws with
      | true => K ⟨ts, ms⟩
      | false => False) ops.toList [] σ.tmps σ.mem []
  | false => runSeq P G call n E cuts ops (fun ts ms => K ⟨ts, ms⟩) ops.toList [] σ.tmps σ.mem
/-- the slots that a text writes -/
def assigned : Code → List Nat
  | .region _ ops _ => ops.toList.filterMap (·.dst)
  | .seq a b | .cond _ a b => assigned a ++ assigned b
  | .block _ c | .loop c => assigned c
  | _ => []
noncomputable def junkAt : List Nat → St → St
  | [], σ => σ
  | i :: r, σ => junkAt r ⟨lset (.val (.one .junk)) σ.tmps i, σ.mem⟩
/-- slots and objects in their places -/
noncomputable def setT : List (Nat × V) → St → St
  | [], σ => σ
  | p :: r, σ => setT r ⟨lset p.2 σ.tmps p.1, σ.mem⟩
noncomputable def setM : List (Nat × Ob) → St → St
  | [], σ => σ
  | p :: r, σ => setM r ⟨σ.tmps, lset p.2 σ.mem p.1⟩
/-- the whole number in a slot -/
def intIn : V → Int
  | .val (.one (.int _ e)) => e.v
  | _ => 0
noncomputable def slotI (σ : St) (t : Nat) : Int := intIn (lget (.val (.one .junk)) σ.tmps t)
/-- how long a list is -/
def obN : Option Ob → Nat
  | some (.vec _ _ n _) => n
  | _ => 0
def vecN (σ : St) (id : Nat) : Nat := obN σ.mem[id]?
def loopsIn : Code → Nat
  | .seq a b | .cond _ a b => loopsIn a + loopsIn b
  | .block _ c => loopsIn c
  | .loop c => loopsIn c + 1
  | _ => 0
/-- the slot that a text writes first -/
def firstDst : Code → Option Nat
  | .region _ ops _ => match ops.toList with
    | o :: _ => o.dst
    | [] => none
  | .seq x _ => firstDst x
  | .block _ c => firstDst c
  | _ => none
/-- states that stand for all in which ways meet, ahead of a text -/
def joinAt (js : List (Nat × Ann)) (c : Code) : Option Ann := match firstDst c with
  | none => none
  | some t => match js.find? (fun p => Nat.beq p.1 t) with
    | some p => some p.2
    | none => none
noncomputable def gen (P : Program) (G : List (Nat × List L)) (call : CallH) (n E : Nat) (anns : Anns) : Code → Nat → St → (Out → St → Prop) → Prop
  | .skip, _, σ, K => K .normal σ
  | .label _, _, σ, K => K .normal σ
  | .ret, _, σ, K => K .ret σ
  | .exit id, _, σ, K => K (.exit id) σ
  | .region _ ops d, _, σ, K => genRegion P G call n E anns.cuts ops d σ (fun σ' => K .normal σ')
  | .seq x y, k, σ, K => match joinAt anns.joins y with
    | none => gen P G call n E anns x k σ (fun o σ' => match o with
      | .normal => gen P G call n E anns y (k + loopsIn x) σ' K
      | .ret => K .ret σ'
      | .exit id => K (.exit id) σ')
    | some A => gen P G call n E anns x k σ (fun o σ' => match o with
      | .normal => ∃ z, A.I (junkAt (assigned x) σ) z ∧ sub E σ' (A.st (junkAt (assigned x) σ) z)
      | .ret => K .ret σ'
      | .exit id => K (.exit id) σ') ∧ ∀ z, A.I (junkAt (assigned x) σ) z → gen P G call n E anns y (k + loopsIn x) (A.st (junkAt (assigned x) σ) z) K
  | .cond c x y, k, σ, K => match opnd G (view σ) c with
    | some (.val (.one (.bool (.lit true)))) => gen P G call n E anns x k σ K
    | some (.val (.one (.bool (.lit false)))) => gen P G call n E anns y (k + loopsIn x) σ K
    | some (.val (.one (.bool (.tm b)))) => (b = true → gen P G call n E anns x k σ K) ∧ (b = false → gen P G call n E anns y (k + loopsIn x) σ K)
    | _ => False
  | .block id c, k, σ, K => gen P G call n E anns c k σ (fun o σ' => K (inBlk id o) σ')
  | .loop c, k, σ, K => match anns.loops[k]? with
    | some A => (∃ x, A.I (junkAt (assigned c) σ) x ∧ sub E σ (A.st (junkAt (assigned c) σ) x)) ∧ ∀ x, A.I (junkAt (assigned c) σ) x → gen P G call n E anns c (k + 1) (A.st (junkAt (assigned c) σ) x) (fun o σ' => match o with
      | .normal => ∃ y, A.I (junkAt (assigned c) σ) y ∧ A.μ y < A.μ x ∧ sub E σ' (A.st (junkAt (assigned c) σ) y)
      | .ret => K .ret σ'
      | .exit id => K (.exit id) σ')
    | none => False
  | _, _, _, _ => False

theorem least_of {p : Nat → Prop} (h : ∃ m, p m) : ∃ m, p m ∧ ∀ k, p k → m ≤ k := by
  obtain ⟨m, hm⟩ := h
  induction m using Nat.strongRecOn with
  | _ m ih =>
    by_cases hk : ∃ k, k < m ∧ p k
    · obtain ⟨k, h1, h2⟩ := hk; exact ih k h1 h2
    · exact ⟨m, hm, fun k hp => Nat.le_of_not_lt fun hl => hk ⟨k, hl, hp⟩⟩
section
variable {P : Program} {X : Cx}
theorem stepSeq_ok {call : CallH} (hcall : CallHOk P X call) {ops : Array Oper} {K : Kn → List V → List Ob → Prop} {D : Dx} {Q : Exit → Act → World → Prop} {o : Oper} {rest : List Oper} {kn : Kn} {ts : List V} {ms : List Ob} (h : stepSeq P X.G call X.n ops K o kn ts ms) (hkn : KnOk kn (view ⟨ts, ms⟩)) (hn : ts.length = X.n)
    (hK : ∀ kn' ts' ms', K kn' ts' ms' → KnOk kn' (view ⟨ts', ms'⟩) → ts'.length = X.n → ∀ a w, Rep X D (view ⟨ts', ms'⟩) a w → wpList P ops Q rest a w) {a : Act} {w : World} (hR : Rep X D (view ⟨ts, ms⟩) a w) : wpList P ops Q (o :: rest) a w := by
    unfold stepSeq at h
    refine wpList_step fun K' hK' => ?_
    -- behind an operation that did as it is told
    have fin : ∀ (kn' : Kn) (e : Eff) (ts' : List V) (ms' : List Ob), KnOk kn' (view ⟨ts, ms⟩) → appT X.n ts o.dst e.v = some ts' → appM ms e.wr = some ms' → K (knOff kn' o.dst) ts' ms' →
        ∀ a' w', Rep X D ⟨upd (view ⟨ts, ms⟩).tmp (look (wrT o.dst e.v)), upd (view ⟨ts, ms⟩).blk (look e.wr)⟩ a' w' → K' a' w' := by
      intro kn' e ts' ms' hpk k1 k2 k3 a' w' hR'
      obtain ⟨t1, t2, _⟩ := appT_ok hn k1
      obtain ⟨m1, _⟩ := appM_ok k2
      have happ : (⟨upd (view ⟨ts, ms⟩).tmp (look (wrT o.dst e.v)), upd (view ⟨ts, ms⟩).blk (look e.wr)⟩ : S) = view ⟨ts', ms'⟩ := by
        unfold view; simp only; rw [t1, m1]
      rw [happ] at hR'
      exact hK' a' w' (hK _ ts' ms' k3 (by rw [← happ]; exact knOff_ok hpk o.dst e.v _) t2 a' w' hR')
    split at h
    · rename_i c q ts' hsp
      split at hsp
      · cases hsp
      · rename_i c' hgc
        split at hsp
        · cases hsp
        · rename_i q' hq
          split at hsp
          · cases hsp
          · rename_i ts'' hts
            cases hsp
            obtain ⟨hn1, h1⟩ := andP_ok h
            obtain ⟨_, _, t3⟩ := appT_ok hn hts
            exact spec_step hcall hkn hgc hq hn1 t3 D _ ⟨fun _ _ => rfl, fun _ _ => rfl⟩ a w hR K' Q (fun a' w' hR' => fin kn ⟨.opt c q.2.v, q.2.rd, []⟩ ts' ms hkn hts rfl h1 a' w' hR')
    split at h
    · exact h.elim
    · rename_i l hl
      obtain ⟨p, hpm, hpg, hpk, hpw⟩ := wantedBy_ok (X := X) hkn hl
      have h1 := impP_ok (allG_mem h p hpm) hpg
      rw [hpw D _ a w hR (fun _ _ => rfl)]
      split at h1
      · rename_i hwant
        rw [hwant, if_pos rfl]
        split at h1
        · exact h1.elim
        · rename_i args hargs
          obtain ⟨hC0, β, hb0, hB⟩ := hR
          have hav := argsOf_ok hB (kn := p.2.2) (fun t _ b hb => knAt_ok hpk hb) hargs
          split at h1
          · rename_i d hd
            have hdst : ∀ t, o.dst = some t → t < X.n := by
              intro t ht
              obtain ⟨x, q, hqm, hqg, hq⟩ := dynOf_ok (X := ⟨X.G, X.n⟩) (view_free ts ms _ (Nat.le_refl _)) hd { o with dst := none } rfl (fun t h => by cases h) D a w β hC0 hb0 hB hav
              obtain ⟨hqn, h3⟩ := andP_ok (impP_ok (allP_mem (h1 x) q hqm) hqg)
              split at h3
              · rename_i ts' ms' k1 k2
                exact (appT_ok hn k1).2.2 t ht
              · exact h3.elim
            obtain ⟨x, q, hqm, hqg, hq⟩ := dynOf_ok (X := X) (view_free ts ms _ (Nat.le_refl _)) hd o rfl hdst D a w β hC0 hb0 hB hav
            obtain ⟨hqn, h3⟩ := andP_ok (impP_ok (allP_mem (h1 x) q hqm) hqg)
            split at h3
            · rename_i ts' ms' k1 k2
              exact hq hqn K' Q (fin _ q.e ts' ms' hpk k1 k2 h3)
            · exact h3.elim
          · split at h1
            · exact h1.elim
            · rename_i ps hps
              obtain ⟨q, hqm, hqg, hqe⟩ := effsB_ok (X := X) hcall (view_free ts ms) hps
              obtain ⟨hqn, h3⟩ := andP_ok (impP_ok (allP_mem h1 q hqm) hqg)
              split at h3
              · rename_i ts' ms' k1 k2
                obtain ⟨t1, t2, t3⟩ := appT_ok hn k1
                exact hqe hqn o rfl t3 D _ a w β hC0 hb0 hB hav (fun _ _ => rfl) (fun _ _ => rfl) K' Q (fin _ q.e ts' ms' hpk k1 k2 h3)
              · exact h3.elim
      · rename_i hwant
        rw [hwant]
        simp only [Bool.false_eq_true, if_false]
        split at h1
        · rename_i ts' k1
          obtain ⟨t1, t2, t3⟩ := appT_ok hn k1
          obtain ⟨hc, β, hb, hB⟩ := hR
          exact fin _ ⟨undefV, [], []⟩ ts' ms hpk k1 rfl h1 _ _ ⟨hc, β, hb, hB.put t3 (undefV_ok β)⟩
        · exact h1.elim

theorem runSeq_ok {call : CallH} (hcall : CallHOk P X call) {E : Nat} (hG : X.G.length ≤ E) {cuts : List (Nat × Ann)} {ops : Array Oper} {K : List V → List Ob → Prop} {D : Dx} (hD : ∀ i p, D.b0 i = some p → i < E) {Q : Exit → Act → World → Prop} (hend : ∀ ts ms a w, K ts ms → ts.length = X.n → Rep X D (view ⟨ts, ms⟩) a w → Q .normal a w) :
    ∀ (rest : List Oper) (kn : Kn) (ts : List V) (ms : List Ob), runSeq P X.G call X.n E cuts ops K rest kn ts ms → KnOk kn (view ⟨ts, ms⟩) → ts.length = X.n → ∀ a w, Rep X D (view ⟨ts, ms⟩) a w → wpList P ops Q rest a w
  | [], kn, ts, ms, h, _, hn, a, w, hR => hend ts ms a w h hn hR
  | o :: rest, kn, ts, ms, h, hkn, hn, a, w, hR => by
    unfold runSeq at h
    split at h
    · exact stepSeq_ok hcall h hkn hn (fun kn' ts' ms' h1 h2 h3 a' w' h4 => runSeq_ok hcall hG hD hend rest kn' ts' ms' h1 h2 h3 a' w' h4) hR
    · rename_i A _
      obtain ⟨⟨x, hI, hs⟩, hall⟩ := h
      obtain ⟨r1, r2⟩ := sub_rep hs hD hG hn hR
      exact stepSeq_ok hcall (hall x hI) (fun p hp => by cases hp) r2 (fun kn' ts' ms' h1 h2 h3 a' w' h4 => runSeq_ok hcall hG hD hend rest kn' ts' ms' h1 h2 h3 a' w' h4) r1

theorem genRegion_ok {call : CallH} (hcall : CallHOk P X call) {E : Nat} (hG : X.G.length ≤ E) {cuts : List (Nat × Ann)} {ops : Array Oper} {draw : Bool} {σ : St} {K : St → Prop} (h : genRegion P X.G call X.n E cuts ops draw σ K) (hn : σ.tmps.length = X.n) :
    ∀ (id : Nat) (Q : Exit → Act → World → Prop) D, (∀ i p, D.b0 i = some p → i < E) → ∀ a w, Rep X D (view σ) a w → (∀ σ' a' w', K σ' → σ'.tmps.length = X.n → Rep X D (view σ') a' w' → Q .normal a' w') → (Code.region id ops draw).wp P Q a w := by
  unfold genRegion at h
  cases draw with
  | true =>
    obtain ⟨ts', ms', ws, hK, hl, hql, hqt, hqs⟩ := runOps_ok hcall _ _ _ _ _ h (fun p hp => by cases hp) hn
    simp only [List.nil_append] at hK
    split at hK
    · rename_i hc
      simp only [Bool.and_eq_true] at hc
      intro id Q D hD a w hR hQ
      refine wp_region_any hc.1.1 ?_
      refine any_order (R := Rep X D) (s0 := view σ) (ws := ws) (by simpa using hql) hc.1.2 hc.2 (fun i wr hw s hag a' w' hR' => ?_) (fun a' w' hR' => hQ ⟨ts', ms'⟩ a' w' hK hl ?_)
        ops.size (Array.replicate ops.size false) (view σ) a _ (by simp) ?_ ?_ ?_ ?_ hR.drew
      · obtain ⟨o, ho', hstep⟩ := hqs i wr hw
        have := hstep D s hag a' w' hR' (fun a'' w'' => Rep X D (s.app wr) a'' w'') Q (fun a'' w'' h => h)
        unfold wpOp
        rw [← Array.getElem?_toList, ho']
        simp only
        split
        · rename_i hw2; rw [if_pos hw2] at this; exact .inl this
        · rename_i hw2; rw [if_neg hw2] at this; exact this
      · rw [← hqt]; simpa using hR'
      · refine Nat.le_trans List.countP_le_length (by simp)
      · intro i hi
        have := hi.2
        simp [hi.1] at this
      · exact (Inv.start _ _).congr (fun j => ⟨fun h => h.elim, fun h => by have := h.2; simp [h.1] at this⟩)
      · exact (Inv.start _ _).congr (fun j => ⟨fun h => h.elim, fun h => by have := h.2; simp [h.1] at this⟩)
    · exact hK.elim
  | false =>
    intro id Q D hD a w hR hQ
    exact wp_region_list (runSeq_ok hcall hG hD (fun ts ms a w hK hl hR' => hQ ⟨ts, ms⟩ a w hK hl hR') ops.toList [] σ.tmps σ.mem h (fun p hp => by cases hp) hn a w hR)
theorem gen_ok {call : CallH} (hcall : CallHOk P X call) {E : Nat} (hG : X.G.length ≤ E) {anns : Anns} : ∀ (c : Code) (k : Nat) (σ : St) (K : Out → St → Prop), gen P X.G call X.n E anns c k σ K → σ.tmps.length = X.n →
    ∀ D, (∀ i p, D.b0 i = some p → i < E) → ∀ a w, Rep X D (view σ) a w → c.wp P (fun e a' w' => ∃ o σ', e = o.to ∧ K o σ' ∧ σ'.tmps.length = X.n ∧ Rep X D (view σ') a' w') a w := by
  intro c
  induction c with
  | skip => intro k σ K h hn D hD a w hR; exact wp_skip ⟨.normal, σ, rfl, h, hn, hR⟩
  | label l => intro k σ K h hn D hD a w hR; exact wp_label ⟨.normal, σ, rfl, h, hn, hR⟩
  | ret => intro k σ K h hn D hD a w hR; exact wp_ret ⟨.ret, σ, rfl, h, hn, hR⟩
  | exit id => intro k σ K h hn D hD a w hR; exact wp_exit ⟨.exit id, σ, rfl, h, hn, hR⟩
  | region id ops d =>
    intro k σ K h hn D hD a w hR
    exact genRegion_ok hcall hG h hn id _ D hD a w hR (fun σ' a' w' h1 h2 hR' => ⟨.normal, σ', rfl, h1, h2, hR'⟩)
  | seq x y ihx ihy =>
    intro k σ K h hn D hD a w hR
    simp only [gen] at h
    split at h
    · refine wp_seq (wp_mono (ihx k σ _ h hn D hD a w hR) ?_)
      rintro e a' w' ⟨o, σ', rfl, h1, h2, h3⟩
      cases o with
      | normal => exact ihy _ σ' K h1 h2 D hD a' w' h3
      | ret => exact ⟨.ret, σ', rfl, h1, h2, h3⟩
      | exit id => exact ⟨.exit id, σ', rfl, h1, h2, h3⟩
    · rename_i A _
      refine wp_seq (wp_mono (ihx k σ _ h.1 hn D hD a w hR) ?_)
      rintro e a' w' ⟨o, σ', rfl, h1, h2, h3⟩
      cases o with
      | normal =>
        obtain ⟨z, hI, hs⟩ := h1
        obtain ⟨r1, r2⟩ := sub_rep hs hD hG h2 h3
        exact ihy _ _ K (h.2 z hI) r2 D hD a' w' r1
      | ret => exact ⟨.ret, σ', rfl, h1, h2, h3⟩
      | exit id => exact ⟨.exit id, σ', rfl, h1, h2, h3⟩
  | cond c x y ihx ihy =>
    intro k σ K h hn D hD a w hR
    have hR' := hR
    obtain ⟨_, β, _, hB⟩ := hR'
    simp only [gen] at h
    split at h
    · rename_i hc
      have : a.eval c = .bool true := opnd_ok hB hc
      exact wp_cond this (by rw [if_pos rfl]; exact ihx k σ K h hn D hD a w hR)
    · rename_i hc
      have : a.eval c = .bool false := opnd_ok hB hc
      exact wp_cond this (by simp only [Bool.false_eq_true, if_false]; exact ihy _ σ K h hn D hD a w hR)
    · rename_i b hc
      have : a.eval c = .bool b := opnd_ok hB hc
      refine wp_cond this ?_
      cases hb : b with
      | true => rw [if_pos rfl]; exact ihx k σ K (h.1 hb) hn D hD a w hR
      | false => simp only [Bool.false_eq_true, if_false]; exact ihy _ σ K (h.2 hb) hn D hD a w hR
    · exact h.elim
  | block id c ih =>
    intro k σ K h hn D hD a w hR
    refine wp_block (wp_mono (ih k σ _ h hn D hD a w hR) ?_)
    rintro e a' w' ⟨o, σ', rfl, h1, h2, h3⟩
    cases o with
    | normal => exact ⟨.normal, σ', rfl, h1, h2, h3⟩
    | ret => exact ⟨.ret, σ', rfl, h1, h2, h3⟩
    | exit j =>
      by_cases hj : j = id
      · subst hj
        simp only [inBlk, Nat.beq_refl, if_true] at h1
        simp only [Out.to, Exit.inBlock, if_true]
        exact ⟨.normal, σ', rfl, h1, h2, h3⟩
      · have hb : Nat.beq j id = false := by
          cases hb : Nat.beq j id
          · rfl
          · exact absurd (Nat.eq_of_beq_eq_true hb) hj
        simp only [inBlk, hb, Bool.false_eq_true, if_false] at h1
        simp only [Out.to, Exit.inBlock, if_neg hj]
        exact ⟨.exit j, σ', rfl, h1, h2, h3⟩
  | loop c ih =>
    intro k σ K h hn D hD a w hR
    simp only [gen] at h
    split at h
    · rename_i A hA
      obtain ⟨⟨x0, hI0, hs0⟩, hround⟩ := h
      classical
      let Good : Act → World → Nat → Prop := fun a w m => ∃ x, A.I (junkAt (assigned c) σ) x ∧ A.μ x = m ∧ Rep X D (view (A.st (junkAt (assigned c) σ) x)) a w ∧ (A.st (junkAt (assigned c) σ) x).tmps.length = X.n
      let μ : Act → World → Nat := fun a w => if h : ∃ m, Good a w m then Classical.choose (least_of h) else 0
      have hμ : ∀ a w m, Good a w m → μ a w ≤ m ∧ Good a w (μ a w) := fun a w m hg => by
        have hex : ∃ m, Good a w m := ⟨m, hg⟩
        simp only [μ, dif_pos hex]
        exact ⟨(Classical.choose_spec (least_of hex)).2 m hg, (Classical.choose_spec (least_of hex)).1⟩
      obtain ⟨r1, r2⟩ := sub_rep hs0 hD hG hn hR
      refine wp_loop (fun a w => ∃ m, Good a w m) μ ⟨_, x0, hI0, rfl, r1, r2⟩ (fun a1 w1 hg => ?_)
      obtain ⟨m, hg⟩ := hg
      obtain ⟨_, x, hI, hx, hRx, hlx⟩ := hμ a1 w1 m hg
      refine wp_mono (ih _ _ _ (hround x hI) hlx D hD a1 w1 hRx) ?_
      rintro e a' w' ⟨o, σ', rfl, h1, h2, h3⟩
      cases o with
      | normal =>
        obtain ⟨y, hy1, hy2, hy3⟩ := h1
        obtain ⟨s1, s2⟩ := sub_rep hy3 hD hG h2 h3
        have hg' : Good a' w' (A.μ y) := ⟨y, hy1, rfl, s1, s2⟩
        exact ⟨⟨_, hg'⟩, by have := (hμ a' w' _ hg').1; omega⟩
      | ret => exact ⟨.ret, σ', rfl, h1, h2, h3⟩
      | exit id => exact ⟨.exit id, σ', rfl, h1, h2, h3⟩
    · exact h.elim
  | _ => intro k σ K h hn D hD a w hR; exact h.elim
end
end Go.Proofs.YtcecdpebapkfaaaHy
