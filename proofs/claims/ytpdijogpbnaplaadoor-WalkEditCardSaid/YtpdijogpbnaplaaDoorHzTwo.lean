/- The heap engine, second part: the ways of operations, regions. It is about no program. -/
import Derived.Test.YtpdijogpbnaplaaDoorHzOne
import Derived.Deep.DeepAppendWide
import Derived.Laws.CopyRow
import Derived.Laws.Entries
import Derived.Maps.RangeRun
namespace Go.Proofs.YtpdijogpbnaplaaDoorHz
open Go Go.RowKit
section
variable {P : Program}

theorem run_append_place {w : World} (t ty e : TypeId) (i : TypeInfo) (z : Value) (ht : P.underlying t = some (.slice e)) (hi : P.info? e = some i) (hz : i.zero = some z) (hzs : z.cells.size = i.size) (hsz : 0 < i.size)
    (v : Value) (n : Nat) (xs : List Value) (hown : w.ownsRow 0 e i.size v n xs)
    (a : Addr) (m c : Nat) (news : List Value) (hl : news.length = m * i.size) (hnews : ∀ j u, news[j]? = some u → w.cell? (a.add j) = some u) (h1 : ∀ u ∈ news, u.oneCell' = true)
    (h63 : n + m ≤ maxLen) (hbytes : ((n + m) + (n + m) / 4 + 192) * i.bytes ≤ 281474976710656) :
    ∃ v' w', (Builtin.append_ #[t, t] ty #[v, .slice (some a) m c]).run P w = .ok v' w' ∧ w'.ownsRow 0 e i.size v' (n + m) (xs ++ news) ∧ w.grownBy w' v.ownBlock ∧ ∀ b, v'.ownBlock = some b → v.ownBlock = some b ∨ w.heap.size ≤ b := by
  obtain ⟨v', w', r1, r2, r3, _⟩ := run_append_own_wide (P := P) w 0 t ty e i z i.size i.bytes ht hi hz rfl rfl hzs hsz v n xs hown a m c news hl hnews h1 h63 hbytes (Nat.zero_le _)
  refine ⟨v', w', r1, r2, r3, fun b hb => ?_⟩
  have hown0 := hown
  rcases hown.2 with ⟨rfl, rfl⟩ | ⟨g, cap, cur, rfl, hbg, hg, hnc, hcm, hcs, htake⟩
  · obtain ⟨v2, w2, q1, q2, _⟩ := run_append_own_wide (P := P) w w.heap.size t ty e i z i.size i.bytes ht hi hz rfl rfl hzs hsz (.slice none 0 0) 0 xs ⟨hown.1, .inl ⟨rfl, rfl⟩⟩ a m c news hl hnews h1 h63 hbytes (Nat.le_refl _)
    rw [r1] at q1
    cases q1
    exact .inr (q2.lt b hb).1
  · by_cases hroom : n + m ≤ cap
    · obtain ⟨w2, q1, _⟩ := run_append_fits (P := P) (w := w) 0 t ty e i i.size ht hi rfl g n cap xs hown a m c news hl hnews h1 hroom
      rw [r1] at q1
      cases q1
      exact .inl hb
    · have holds : ∀ j u, xs[j]? = some u → w.cell? ((⟨g, 0, none⟩ : Addr).add j) = some u := hown.cells (g := g) rfl
      have hr := run_append_grow (P := P) w t ty e i z ht hi hz ⟨g, 0, none⟩ n cap xs hown.1 holds a m c news hl hnews (by omega) (by simp only [maxLen] at h63; omega) (growslice_fits_wide (by omega) hbytes)
      rw [r1] at hr
      cases hr
      cases hb
      exact .inr (Nat.le_refl _)

def Col.plain : Col → Bool
  | .vals _ => false
  | _ => true
theorem Col.plain_ok {c : Col} (h : c.plain = true) {i : Nat} {x : Value} (hr : c.rel i x) : x.oneCell' = true := by
  cases c with
  | ints k g => cases hr; rfl
  | bools g => cases hr; rfl
  | fsubs id bb lo ln => exact fsubIs.one hr
  | vals g => cases h
theorem row_list {w : World} {b off m : Nat} {cols : List Col} (h : rowOk w b off m cols) (hp : cols.all Col.plain = true) (hpos : 0 < cols.length) :
    ∃ news : List Value, news.length = m * cols.length ∧ (∀ j u, news[j]? = some u → w.cell? ⟨b, off + j, none⟩ = some u) ∧ (∀ u ∈ news, u.oneCell' = true) ∧
      ∀ i, i < m → ∀ (j : Nat) (c : Col), cols[j]? = some c → ∃ y, news[i * cols.length + j]? = some y ∧ c.rel i y := by
  have cell : ∀ q, q < m * cols.length → ∃ u, w.cell? ⟨b, off + q, none⟩ = some u ∧ ∃ c, cols[q % cols.length]? = some c ∧ c.rel (q / cols.length) u := by
    intro q hq
    obtain ⟨hdiv, _⟩ := mulDiv hq
    have hmod := Nat.mod_lt q hpos
    obtain ⟨x, k1, k2⟩ := h _ hdiv _ _ (List.getElem?_eq_getElem hmod)
    have hdm : q / cols.length * cols.length + q % cols.length = q := by
      have := Nat.div_add_mod q cols.length
      rw [Nat.mul_comm] at this; exact this
    exact ⟨x, by rw [← hdm, ← Nat.add_assoc]; exact k1, _, List.getElem?_eq_getElem hmod, k2⟩
  have get : ∀ q, ((List.range (m * cols.length)).map fun q => (w.cell? ⟨b, off + q, none⟩).getD undef)[q]? = if q < m * cols.length then some ((w.cell? ⟨b, off + q, none⟩).getD undef) else none := by
    intro q
    rw [List.getElem?_map]
    by_cases hq : q < m * cols.length
    · rw [List.getElem?_range hq, if_pos hq]; rfl
    · rw [List.getElem?_eq_none (by simpa using hq), if_neg hq]; rfl
  refine ⟨(List.range (m * cols.length)).map fun q => (w.cell? ⟨b, off + q, none⟩).getD undef, by simp, fun j u hu => ?_, fun u hu => ?_, fun i hi j c hc => ?_⟩
  · rw [get] at hu
    split at hu
    · rename_i hq
      obtain ⟨x, hx, _⟩ := cell j hq
      rw [hx] at hu ⊢
      exact hu
    · cases hu
  · obtain ⟨q, hq, rfl⟩ := List.mem_map.1 hu
    obtain ⟨x, hx, c, hc, hr⟩ := cell q (by simpa using hq)
    rw [hx]
    exact Col.plain_ok (List.all_eq_true.1 hp c (List.mem_of_getElem? hc)) hr
  · have hjl : j < cols.length := (List.getElem?_eq_some_iff.1 hc).1
    have hb : i * cols.length + j < m * cols.length := by
      have : (i + 1) * cols.length ≤ m * cols.length := Nat.mul_le_mul_right _ hi
      rw [Nat.succ_mul] at this; omega
    obtain ⟨x, k1, k2⟩ := h i hi j c hc
    refine ⟨x, ?_, k2⟩
    rw [get, if_pos hb, ← Nat.add_assoc, k1]; rfl

structure AppTy (P : Program) (t e : TypeId) (stride bytes : Nat) : Prop where
  sl : P.underlying t = some (.slice e)
  info : ∃ i z, P.info? e = some i ∧ i.zero = some z ∧ z.cells.size = stride ∧ i.size = stride ∧ i.bytes = bytes
  pos : 0 < stride
def appTy (P : Program) (t : TypeId) : Option (TypeId × Nat × Nat) :=
  match P.underlying t with
  | some (.slice e) => match P.info? e with
    | some i => match i.zero with
      | some z => if Nat.beq z.cells.size i.size && Nat.blt 0 i.size && Nat.blt 0 i.bytes then some (e, i.size, i.bytes) else none
      | none => none
    | none => none
  | _ => none
theorem appTy_ok {t e : TypeId} {stride bytes : Nat} (h : appTy P t = some (e, stride, bytes)) : AppTy P t e stride bytes ∧ 0 < bytes := by
  unfold appTy at h
  split at h
  · rename_i e' ht
    split at h
    · rename_i i hi
      split at h
      · rename_i z hz
        split at h
        · rename_i hc
          simp only [Bool.and_eq_true] at hc
          cases h
          exact ⟨⟨ht, ⟨i, z, hi, hz, Nat.eq_of_beq_eq_true hc.1.1, rfl, rfl⟩, by simpa using hc.1.2⟩, by simpa using hc.2⟩
        · cases h
      · cases h
    · cases h
  · cases h

theorem at_own (v : Value) (b : Nat) : (Pl.val v).at_ b ↔ v.ownBlock = some b := by
  cases v <;> first | exact ⟨fun h => h.elim, fun h => by cases h⟩ | skip
  rename_i a n c
  cases a with
  | none => exact ⟨fun h => h.elim, fun h => by cases h⟩
  | some a => exact ⟨fun h => by have h : b = a.block := h; rw [h]; rfl, fun h => by cases h; rfl⟩
theorem foot_own (o : Bool) (e : TypeId) (n : Nat) (cols : List Col) (v : Value) (b : Nat) : (Ob.vec o e n cols).foot (.val v) b ↔ v.ownBlock = some b := at_own v b

theorem append_core {X : Cx} {D : Dx} {β : Bm} {s2 : S} {a : Act} {w : World} {t t2 ty e : TypeId} {stride : Nat} {fresh : Nat} {n m : Nat} {cols cols2 cols' : List Col} {x1 x2 : Value}
    (hC : Chg D w) (hB : RepB X D β s2 a w) (hcl : cols.length = stride) (happ : appCols n cols cols2 = some cols')
    (hx1 : (Ob.vec true e n cols).ok β w (.val x1)) (hmay : D.may (.vec true e n cols) (.val x1)) (hfr : s2.blk fresh = none)
    (hno : ∀ i q p b, s2.blk i = some q → q ≠ .gone → β i = some p → q.foot p b → x1.ownBlock ≠ some b) (h63 : n + m ≤ 9223372036854775807)
    (run : ∀ xs, w.ownsRow 0 e stride x1 n xs → ∃ v' w' news, (Builtin.append_ #[t, t2] ty #[x1, x2]).run P w = .ok v' w' ∧ w'.ownsRow 0 e stride v' (n + m) (xs ++ news) ∧ w.grownBy w' x1.ownBlock ∧ (∀ b, v'.ownBlock = some b → x1.ownBlock = some b ∨ w.heap.size ≤ b) ∧
      news.length = m * stride ∧ ∀ j, j < m → ∀ (q : Nat) (c : Col), cols2[q]? = some c → ∃ y, news[j * stride + q]? = some y ∧ c.rel j y) :
    ∃ v' w' β', (Builtin.append_ #[t, t2] ty #[x1, x2]).run P w = .ok v' w' ∧ Chg D w' ∧ β.le β' ∧ β' fresh = some (.val v') ∧ (∃ q r u, v' = .slice q r u) ∧ RepB X D β' ⟨s2.tmp, upd s2.blk (look [(fresh, some (.vec true e (n + m) cols'))])⟩ a w' := by
  obtain ⟨c1, c2, c3⟩ := appCols_ok happ
  obtain ⟨xs, hown, hxs⟩ := vec_owns hx1
  have hbase := Nat.le_trans hC.base hC.size
  rw [hcl] at hown
  have run := run xs hown
  obtain ⟨v', w', news, r1, r2, r3, r4, r5, r6⟩ := run
  have hB2 : RepB X D β s2 a w' := hB.laterBut hbase r3.size x1.ownBlock r3.block (fun i q p b hq hg hp hf e2 => hno i q p b hq hg hp hf e2.symm) (fun b hb => hmay b ((foot_own _ _ _ _ _ _).2 hb))
  have hxl : xs.length = n * stride := hown.1
  have hok : ∀ β', (Ob.vec true e (n + m) cols').ok β' w' (.val v') := by
    intro β'
    have hcl' : cols'.length = stride := by omega
    refine owns_vec (by rw [hcl']; exact r2) h63 (fun j hj q c hc => ?_)
    obtain ⟨c0, d, d1, d2, d3⟩ := c3 q c hc
    have hql : q < stride := by rw [← hcl']; exact (List.getElem?_eq_some_iff.1 hc).1
    rw [hcl']
    by_cases hjn : j < n
    · obtain ⟨y, y1, y2⟩ := hxs j hjn q c0 d1
      rw [hcl] at y1
      have hlt : j * stride + q < xs.length := (List.getElem?_eq_some_iff.1 y1).1
      exact ⟨y, by rw [List.getElem?_append_left hlt]; exact y1, (Col.app_ok d3 j y).1 hjn y2⟩
    · obtain ⟨p, rfl⟩ : ∃ p, j = n + p := ⟨j - n, by omega⟩
      obtain ⟨y, y1, y2⟩ := r6 p (by omega) q d d2
      refine ⟨y, ?_, (Col.app_ok d3 (n + p) y).2 p rfl y2⟩
      have e1 : (n + p) * stride + q = xs.length + (p * stride + q) := by rw [Nat.add_mul, hxl]; omega
      rw [e1, List.getElem?_append_right (by omega), Nat.add_sub_cancel_left]; exact y1
  obtain ⟨hle, hB3⟩ := hB2.fresh hfr (o := .vec true e (n + m) cols') (p := .val v') (Nat.le_trans hbase r3.size) (fun b hb => by
    have hb := (foot_own _ _ _ _ _ _).1 hb
    rcases r4 b hb with h1 | h1
    · exact ⟨hmay b ((foot_own _ _ _ _ _ _).2 h1), fun i q p hq hg hp hf => hno i q p b hq hg hp hf h1⟩
    · refine ⟨.inl (by omega), fun i q p hq hg hp hf => ?_⟩
      obtain ⟨p', a1, a2, _⟩ := hB.mem i q hq
      rw [hp] at a1; cases a1
      have := Ob.foot_lt a2 hg b hf
      omega) (hok _)
  have hC' : Chg D w' := hC.later r3.os r3.tape r3.output r3.size (fun k hk hF => r3.block k (by omega) fun e2 => by
    rcases hmay k ((foot_own _ _ _ _ _ _).2 e2.symm) with h1 | h1
    · omega
    · exact hF h1)
  have hsh : ∃ q r u, v' = .slice q r u := by
    obtain ⟨q, u, hq⟩ := vec_shape (hok β)
    exact ⟨_, _, _, hq⟩
  exact ⟨v', w', _, r1, hC', hle, by simp, hsh, hB3⟩
def SrcIs (w : World) (n : Nat) (cols : List Col) (x : Value) : Prop := n ≤ 9223372036854775807 ∧ ((∃ a c, x = .slice a 0 c ∧ n = 0) ∨ ∃ b off cap, x = .slice (some ⟨b, off, none⟩) n cap ∧ b < w.heap.size ∧ n ≤ cap ∧ rowOk w b off n cols)
theorem SrcIs.of_vec {β : Bm} {w : World} {own : Bool} {e : TypeId} {n : Nat} {cols : List Col} {x : Value} (h : (Ob.vec own e n cols).ok β w (.val x)) : SrcIs w n cols x := by
  obtain ⟨h0, h⟩ := h
  rcases h with ⟨c, h1, h2, _⟩ | ⟨b, off, cap, h1, h2, h3, h4, _⟩
  · exact ⟨h0, .inl ⟨none, c, h1, h2⟩⟩
  · exact ⟨h0, .inr ⟨b, off, cap, h1, h2, h3, h4⟩⟩
theorem append_step {X : Cx} {D : Dx} {β : Bm} {s2 : S} {a : Act} {w : World} {t ty e : TypeId} {stride bytes : Nat} (hT : AppTy P t e stride bytes) {fresh : Nat} {n m : Nat} {cols cols2 cols' : List Col} {x1 x2 : Value}
    (hC : Chg D w) (hB : RepB X D β s2 a w) (hcl : cols.length = stride) (happ : appCols n cols cols2 = some cols') (hpl : cols2.all Col.plain = true)
    (hx1 : (Ob.vec true e n cols).ok β w (.val x1)) (hmay : D.may (.vec true e n cols) (.val x1)) (hfr : s2.blk fresh = none)
    (hno : ∀ i q p b, s2.blk i = some q → q ≠ .gone → β i = some p → q.foot p b → x1.ownBlock ≠ some b) (hne : SrcIs w m cols2 x2) (hbytes : ((n + m) + (n + m) / 4 + 192) * bytes ≤ 281474976710656) (hbp : 0 < bytes) :
    ∃ v' w' β', (Builtin.append_ #[t, t] ty #[x1, x2]).run P w = .ok v' w' ∧ Chg D w' ∧ β.le β' ∧ β' fresh = some (.val v') ∧ (∃ q r u, v' = .slice q r u) ∧ RepB X D β' ⟨s2.tmp, upd s2.blk (look [(fresh, some (.vec true e (n + m) cols'))])⟩ a w' := by
  obtain ⟨ht, ⟨i, z, hi, hz, hzs, hisz, hib⟩, hpos⟩ := hT
  obtain ⟨c1, c2, c3⟩ := appCols_ok happ
  have h63 : n + m ≤ 9223372036854775807 := by
    have : ((n + m) + (n + m) / 4 + 192) * 1 ≤ ((n + m) + (n + m) / 4 + 192) * bytes := Nat.mul_le_mul_left _ hbp
    omega
  refine append_core (P := P) hC hB hcl happ hx1 hmay hfr hno h63 (fun xs hown => ?_)
  obtain ⟨_, h2⟩ := hne
  rcases h2 with ⟨a2, c, rfl, rfl⟩ | ⟨b, off, cap, rfl, k1, k2, k3⟩
  · have hn : x1 = x1 := rfl
    refine ⟨x1, w, [], ?_, by simpa using hown, ⟨rfl, rfl, rfl, Nat.le_refl _, fun _ _ _ => rfl⟩, fun b hb => .inl hb, by simp, fun j hj => absurd hj (Nat.not_lt_zero j)⟩
    have h0 : ∀ sz : Nat, (Builtin.firstCells sz 0 (.slice a2 0 c)).run P w = .ok #[] w := fun sz => by cases a2 <;> simp [Builtin.firstCells, loadCells, loadCellsFrom]
    rcases hown.2 with ⟨rfl, rfl⟩ | ⟨g, cap, cur, rfl, _, _, hnc, _⟩
    · simp [Builtin.append_, run_underlying ht, sizeOf, typeInfo, hi, Builtin.lenOf, h0]
    · simp [Builtin.append_, run_underlying ht, sizeOf, typeInfo, hi, Builtin.lenOf, h0, hnc, storeCells]
  · obtain ⟨news, l1, l2, l3, l4⟩ := row_list k3 hpl (by omega)
    rw [← c1, hcl] at l1 l4
    subst hisz
    obtain ⟨v', w', r1, r2, r3, r4⟩ := run_append_place (P := P) (w := w) t ty e i z ht hi hz hzs hpos x1 n xs hown ⟨b, off, none⟩ m cap news l1 (fun j u hu => by rw [addr_add]; exact l2 j u hu) l3 (by simp only [maxLen]; omega) (by rw [hib]; exact hbytes)
    exact ⟨v', w', news, r1, r2, r3, r4, l1, l4⟩

theorem look_two {α : Type} (f : Nat → α) (i j : Nat) (u v : α) (h : i ≠ j) : upd f (look [(i, u), (j, v)]) = upd (upd f (look [(i, u)])) (look [(j, v)]) := by
  funext k
  simp only [upd, look]
  cases h1 : Nat.beq i k <;> cases h2 : Nat.beq j k
  · simp
  · simp
  · simp
  · exact absurd ((Nat.eq_of_beq_eq_true h1).trans (Nat.eq_of_beq_eq_true h2).symm) h
def Col.shift (lo : Nat) : Col → Col
  | .ints k g => .ints k fun i => g (i + lo)
  | .bools g => .bools fun i => g (i + lo)
  | .vals g => .vals fun i => g (i + lo)
  | .fsubs id bb ll ln => .fsubs id (fun i => bb (i + lo)) (fun i => ll (i + lo)) (fun i => ln (i + lo))
theorem Col.shift_rel {lo : Nat} {c : Col} {i : Nat} {x : Value} (h : c.rel (i + lo) x) : (c.shift lo).rel i x := by cases c <;> exact h
theorem Col.shift_plain {lo : Nat} {cols : List Col} (h : cols.all Col.plain = true) : (cols.map (Col.shift lo)).all Col.plain = true := by
  rw [List.all_map]
  refine List.all_eq_true.2 fun c hc => ?_
  have := List.all_eq_true.1 h c hc
  cases c <;> exact this
theorem sub_vec {β : Bm} {w : World} {own : Bool} {e : TypeId} {n : Nat} {cols : List Col} {id stride lo len : Nat} {x x0 : Value} (hst : stride = cols.length) (hx0 : β id = some (.val x0)) (hok : (Ob.vec own e n cols).ok β w (.val x0)) (hx : (L.sub id stride lo len).rel β x) :
    lo + len ≤ n ∧ (Ob.vec false e len (cols.map (Col.shift lo))).ok β w (.val x) := by
  obtain ⟨x1, h1, h2⟩ := hx
  rw [hx0] at h1; cases h1
  obtain ⟨k0, k1⟩ := hok
  rcases h2 with ⟨c0, c, rfl, rfl, rfl, rfl⟩ | ⟨a, o, n', c, o', c', rfl, rfl, q1, q2, q3⟩
  · exact ⟨Nat.zero_le _, Nat.zero_le _, .inl ⟨c, rfl, rfl, fun h => by cases h⟩⟩
  · rcases k1 with ⟨c1, h, _⟩ | ⟨b, off, cap, h, r1, r2, r3, _⟩
    · cases h
    · cases h
      refine ⟨q1, by omega, .inr ⟨a, o', c', rfl, r1, q2, fun i hi j cc hcc => ?_, fun h => by cases h⟩⟩
      rw [List.getElem?_map] at hcc
      cases hc0 : cols[j]? with
      | none => rw [hc0] at hcc; cases hcc
      | some c0 =>
        rw [hc0] at hcc; cases hcc
        obtain ⟨y, y1, y2⟩ := r3 (i + lo) (by omega) j c0 hc0
        refine ⟨y, ?_, Col.shift_rel y2⟩
        rw [List.length_map, q3 (by omega)]
        have : o + (i + lo) * cols.length + j = o + lo * stride + i * cols.length + j := by
          rw [hst, Nat.add_mul]; omega
        rw [← this]; exact y1
theorem fsub_vec {β : Bm} {w : World} {own : Bool} {e : TypeId} {k : IntKind} {len : Nat → Nat} {dom : Nat → Bool} {g : Nat → Nat → Int} {p : Pl} (hok : (Ob.fam own e k len dom g).ok β w p) {id b lo n : Nat} (h1 : dom b = true) (h2 : lo + n ≤ len b) (h3 : n ≤ 9223372036854775807) {x : Value} (hx : (L.fsub id b lo n).rel β x) :
    SrcIs w n [.ints k fun i => g b (lo + i)] x := by
  rcases hx with ⟨a, c, rfl, rfl⟩ | ⟨o, c, rfl, q1, q2⟩
  · exact ⟨h3, .inl ⟨a, c, rfl, rfl⟩⟩
  obtain ⟨r1, r2, _⟩ := hok b h1
  refine ⟨h3, .inr ⟨b, o, c, rfl, r1, q1, fun i hi j cc hcc => ?_⟩⟩
  cases j with
  | zero =>
    simp at hcc; subst hcc
    have := q2 (by omega)
    subst this
    exact ⟨_, by simpa using r2 (o + i) (by omega), rfl⟩
  | succ j => simp at hcc
theorem rof_vec {β : Bm} {w : World} {k : IntKind} {dom : Nat → Bool} {vis : Nat → Nat → Bool} {g : Nat → Nat → Int} {p : Pl} (hok : (Ob.rof k dom vis g).ok β w p) {id b lo n : Nat} (h0 : dom b = true) (h1 : ∀ i, i < n → vis b (lo + i) = true) (h3 : n ≤ 9223372036854775807) {x : Value} (hx : (L.fsub id b lo n).rel β x) :
    SrcIs w n [.ints k fun i => g b (lo + i)] x := by
  rcases hx with ⟨a, c, rfl, rfl⟩ | ⟨o, c, rfl, q1, q2⟩
  · exact ⟨h3, .inl ⟨a, c, rfl, rfl⟩⟩
  refine ⟨h3, .inr ⟨b, o, c, rfl, (hok b h0).1, q1, fun i hi j cc hcc => ?_⟩⟩
  cases j with
  | zero =>
    simp at hcc; subst hcc
    have := q2 (by omega)
    subst this
    exact ⟨_, by simpa using (hok b h0).2 _ (h1 i hi), rfl⟩
  | succ j => simp at hcc
def srcOf (s : S) : L → Option (Nat × Nat × List Col × Option Prop)
  | .vec id => match s.blk id with
    | some (.vec _ _ n cols) => some (id, n, cols, none)
    | _ => none
  | .sub id stride lo len => match s.blk id with
    | some (.vec _ _ _ cols) => if Nat.beq stride cols.length then some (id, len, cols.map (Col.shift lo), none) else none
    | _ => none
  | .fsub id b lo n => match s.blk id with
    | some (.fam _ _ k len dom g) => some (id, n, [.ints k fun i => g b (lo + i)], some (dom b = true ∧ lo + n ≤ len b ∧ n ≤ 9223372036854775807))
    | some (.rof k dom vis g) => some (id, n, [.ints k fun i => g b (lo + i)], some (dom b = true ∧ (∀ i, i < n → vis b (lo + i) = true) ∧ n ≤ 9223372036854775807))
    | _ => none
  | _ => none
theorem srcOf_ok {X : Cx} {D : Dx} {β : Bm} {s s2 : S} {a : Act} {w : World} (hB : RepB X D β s2 a w) {l : L} {id n : Nat} {cols : List Col} {nd : Option Prop} (h : srcOf s l = some (id, n, cols, nd)) (hnd : holdsP nd) (hs : s2.blk id = s.blk id) {x : Value} (hx : l.rel β x) :
    SrcIs w n cols x := by
  unfold srcOf at h
  split at h
  · split at h
    · rename_i own e n' cols' hb
      cases h
      obtain ⟨p, k1, k2, _⟩ := hB.mem id _ (by rw [hs, hb])
      obtain ⟨hx1, _⟩ := hx
      rw [hx1] at k1; cases k1
      exact .of_vec k2
    · cases h
  · split at h
    · rename_i own e n' cols' hb
      split at h
      · rename_i hst
        cases h
        obtain ⟨p, k1, k2, _⟩ := hB.mem id _ (by rw [hs, hb])
        have hx' := hx
        obtain ⟨x0, q1, _⟩ := hx'
        rw [q1] at k1; cases k1
        exact .of_vec (sub_vec (Nat.eq_of_beq_eq_true hst) q1 k2 hx).2
      · cases h
    · cases h
  · split at h
    · rename_i own e k len dom g hb
      cases h
      obtain ⟨p, k1, k2, _⟩ := hB.mem id _ (by rw [hs, hb])
      obtain ⟨n1, n2, n3⟩ := hnd
      exact fsub_vec k2 n1 n2 n3 hx
    · rename_i k dom vis g hb
      cases h
      obtain ⟨p, k1, k2, _⟩ := hB.mem id _ (by rw [hs, hb])
      obtain ⟨n0, n1, n3⟩ := hnd
      exact rof_vec k2 n0 n1 n3 hx
    · cases h
  · cases h
def boundIs (v : Option Value) (d l : Nat) : Prop := (v = none ∧ l = d) ∨ ∃ k : IntKind, v = some (.int k l)
theorem run_part {β : Bm} {w : World} {t el : TypeId} {n m id l h : Nat} {own : Bool} {ety : TypeId} {cols : List Col} (h1 : P.underlying t = some (.slice el)) (hn : tySize P el = some n) {x0 : Value} (hx : β id = some (.val x0)) (hok : (Ob.vec own ety m cols).ok β w (.val x0))
    {lo hi : Option Value} (hlo : boundIs lo 0 l) (hhi : boundIs hi m h) (hlh : l ≤ h) (hhm : h ≤ m) : ∃ y, (L.sub id n l (h - l)).rel β y ∧ (Instr.sliceAt t x0 lo hi none).run P w = .ok y w := by
  have hl : ∀ c, (match lo with | some v => Instr.sliceBound v h c | none => pure 0 : Sem Nat).run P w = .ok l w := by
    intro c
    rcases hlo with ⟨rfl, rfl⟩ | ⟨k, rfl⟩
    · rfl
    · have := run_sliceBound (P := P) (w := w) k (l : Int) h c (by omega) (by omega)
      simpa using this
  have hh : ∀ (cap : Nat), m ≤ cap → ∀ c, (match hi with | some v => Instr.sliceBound v cap c | none => pure m : Sem Nat).run P w = .ok h w := by
    intro cap hc c
    rcases hhi with ⟨rfl, rfl⟩ | ⟨k, rfl⟩
    · rfl
    · have := run_sliceBound (P := P) (w := w) k (h : Int) cap c (by omega) (by omega)
      simpa using this
  have hb : ∀ (cap : Nat), m ≤ cap → (Instr.sliceBounds true m cap lo hi none).run P w = .ok (l, h, cap) w := by
    intro cap hc
    have h2 := hh cap hc
    unfold Instr.sliceBounds
    cases hi with
    | none =>
      have h2 : m = h := by rcases hhi with ⟨_, rfl⟩ | ⟨k, hk⟩ <;> first | rfl | cases hk
      subst h2
      cases lo with
      | none =>
        have h3 : l = 0 := by rcases hlo with ⟨_, rfl⟩ | ⟨k, hk⟩ <;> first | rfl | cases hk
        subst h3; rfl
      | some v => simp only [Sem.run_bind, Sem.run_pure, Result.andThen_ok, hl]
    | some u =>
      cases lo with
      | none =>
        have h3 : l = 0 := by rcases hlo with ⟨_, rfl⟩ | ⟨k, hk⟩ <;> first | rfl | cases hk
        subst h3
        simp only [Sem.run_bind, Sem.run_pure, Result.andThen_ok, h2]
      | some v => simp only [Sem.run_bind, Sem.run_pure, Result.andThen_ok, h2, hl]
  have step : ∀ (a : Option Addr) (cap : Nat), x0 = .slice a m cap → m ≤ cap → (Instr.sliceAt t x0 lo hi none).run P w = .ok (.slice (if cap = l then a else a.map (·.add (l * n))) (h - l) (cap - l)) w := by
    rintro a cap rfl hc
    unfold Instr.sliceAt
    simp only [Sem.run_bind, run_under h1, Result.andThen_ok]
    unfold Instr.slice
    simp only [Sem.run_bind, run_under h1, Result.andThen_ok, hb cap hc, tySize_ok hn, Sem.run_pure]
  obtain ⟨_, h2 | h2⟩ := hok
  · obtain ⟨c, rfl, rfl, _⟩ := h2
    refine ⟨_, ⟨_, hx, .inl ⟨c, c - l, rfl, ?_, by omega, by omega⟩⟩, step none c rfl (Nat.zero_le _)⟩
    have : h - l = 0 := by omega
    rw [this]
    split <;> rfl
  · obtain ⟨b, off, cap, rfl, k1, k2, _⟩ := h2
    by_cases hc : cap = l
    · refine ⟨_, ⟨_, hx, .inr ⟨b, off, m, cap, off, cap - l, rfl, by rw [if_pos hc], by omega, by omega, fun h3 => by omega⟩⟩, step _ cap rfl k2⟩
    · refine ⟨_, ⟨_, hx, .inr ⟨b, off, m, cap, off + l * n, cap - l, rfl, ?_, by omega, by omega, fun _ => rfl⟩⟩, step _ cap rfl k2⟩
      rw [if_neg hc]
      simp only [Option.map_some, addr_add]
theorem reads_part {t el : TypeId} {x : Operand} {lo hi : Option Operand} {id l h n m : Nat} {own : Bool} {ety : TypeId} {cols : List Col} (h1 : P.underlying t = some (.slice el)) (hn : tySize P el = some n) {vs : List V}
    (hb : ∀ (β : Bm) (ρ : Operand → Value), All2 (V.rel β) vs ((lo.toList ++ hi.toList).map ρ) → boundIs (lo.map ρ) 0 l ∧ boundIs (hi.map ρ) m h) (hlh : l ≤ h) (hhm : h ≤ m) :
    Reads P (.slice t x lo hi none) (.val (.one (.vec id)) :: vs) id (.vec own ety m cols) (.val (.one (.sub id n l (h - l)))) := by
  intro β ρ o w p ho hr hp hok
  obtain ⟨dst, op, type, pos, after, guard⟩ := o; simp only at ho; subst ho
  have e0 : (Op.slice t x lo hi none).operands.toList.map ρ = ρ x :: (lo.toList ++ hi.toList).map ρ := by simp [Op.operands]
  rw [e0] at hr
  obtain ⟨⟨hx, _⟩, hr⟩ := hr
  obtain ⟨b1, b2⟩ := hb β ρ hr
  rw [hx] at hp; cases hp
  obtain ⟨y, hy, hrun⟩ := run_part (P := P) (w := w) h1 hn hx hok b1 b2 hlh hhm
  exact ⟨y, hy, by simp only [execOp, Option.map_none, Sem.run_bind, hrun, Result.andThen_ok]; rfl⟩
theorem eff_append {X : Cx} {t : TypeId} {sx xx : Operand} {e : TypeId} {stride bytes : Nat} (hT : appTy P t = some (e, stride, bytes)) {s : S} {id id2 fresh : Nat} {l2 : L} {n m : Nat} {cols cols2 cols' : List Col} (hcl : cols.length = stride)
    (h1 : s.blk id = some (.vec true e n cols)) {nd : Option Prop} (h2 : srcOf s l2 = some (id2, m, cols2, nd)) (hnd : holdsP nd) (hid : id ≠ id2) (hfr : s.blk fresh = none) (happ : appCols n cols cols2 = some cols') (hpl : cols2.all Col.plain = true) (hneed : ((n + m) + (n + m) / 4 + 192) * bytes ≤ 281474976710656) :
    EffOk P X (.call { callee := .builtin .append, args := #[sx, xx], argTypes := #[t, t] }) s [.val (.one (.vec id)), .val (.one l2)] ⟨.val (.one (.vec fresh)), [id, id2], [(id, some .gone), (fresh, some (.vec true e (n + m) cols'))]⟩ := by
  intro o ho hd D s2 a w β hC hb hB hargs hrd hwr K Q hK
  obtain ⟨hTy, hbp⟩ := appTy_ok hT
  have q1 : s2.blk id = some (.vec true e n cols) := by rw [hrd id (by simp), h1]
  have q3 : s2.blk fresh = none := by rw [hwr (fresh, some (.vec true e (n + m) cols')) (by simp), hfr]
  have hif : id ≠ fresh := fun e => by rw [e, q3] at q1; cases q1
  obtain ⟨⟨a1, _⟩, a2, _⟩ := hargs
  obtain ⟨p1, b1, b2, b3⟩ := hB.mem id _ q1
  have c2 := srcOf_ok hB h2 hnd (hrd id2 (by simp)) a2
  rw [a1] at b1; cases b1
  have hB1 := hB.drop q1
  obtain ⟨v', w', β', r1, r2, r3, r4, r5, r6⟩ := append_step (P := P) (ty := o.type) hTy (s2 := ⟨s2.tmp, upd s2.blk (look [(id, some .gone)])⟩) (fresh := fresh) hC hB1 hcl happ hpl b2 (b3 rfl)
    (by simp only [upd_one, if_neg hif.symm]; exact q3)
    (fun i q p b hq hg hp hf hf1 => by
      simp only [upd_one] at hq
      split at hq
      · cases hq; exact hg rfl
      · rename_i hne
        exact hne (hB.inj id i _ q _ p b q1 hq rfl hg a1 hp ((foot_own _ _ _ _ _ _).2 hf1) hf).symm)
    c2 hneed hbp
  obtain ⟨dst, op, type, pos, after, guard⟩ := o
  simp only at ho; subst ho
  unfold Oper.wp
  have e1 : (execOp a.eval ⟨dst, .call { callee := .builtin .append, args := #[sx, xx], argTypes := #[t, t] }, type, pos, after, guard⟩).run P w = .ok (.value v') w' := by
    simp only [execOp, resolve, invoke, builtin, Sem.run_bind, Sem.run_pure, Result.andThen_ok]
    have : #[sx, xx].map a.eval = #[a.eval sx, a.eval xx] := by simp
    rw [this]
    rw [show (Builtin.append_ #[t, t] type #[a.eval sx, a.eval xx]).run P w = .ok v' w' from r1]
    rfl
  rw [e1]
  refine hK _ _ ⟨r2, β', Bm.le_trans hb r3, ?_⟩
  rw [look_two _ _ _ _ _ hif]
  exact r6.put hd (v := .val (.one (.vec fresh))) ⟨r4, r5⟩
theorem nil_vec (β : Bm) (w : World) (e : TypeId) (cols : List Col) : (Ob.vec true e 0 cols).ok β w (.val (.slice none 0 0)) := ⟨Nat.zero_le _, .inl ⟨0, rfl, rfl, fun _ => rfl⟩⟩
theorem eff_appendNil {X : Cx} {t : TypeId} {sx xx : Operand} {e : TypeId} {stride bytes : Nat} (hT : appTy P t = some (e, stride, bytes)) {s : S} {id2 fresh : Nat} {l2 : L} {m : Nat} {cols2 cols' : List Col} (hcl : cols2.length = stride)
    {nd : Option Prop} (h2 : srcOf s l2 = some (id2, m, cols2, nd)) (hnd : holdsP nd) (hfr : s.blk fresh = none) (happ : appCols 0 cols2 cols2 = some cols') (hpl : cols2.all Col.plain = true) (hneed : ((0 + m) + (0 + m) / 4 + 192) * bytes ≤ 281474976710656) :
    EffOk P X (.call { callee := .builtin .append, args := #[sx, xx], argTypes := #[t, t] }) s [.val (.one (.cst (.slice none 0 0))), .val (.one l2)] ⟨.val (.one (.vec fresh)), [id2], [(fresh, some (.vec true e (0 + m) cols'))]⟩ := by
  intro o ho hd D s2 a w β hC hb hB hargs hrd hwr K Q hK
  obtain ⟨hTy, hbp⟩ := appTy_ok hT
  have q3 : s2.blk fresh = none := by rw [hwr (fresh, some (.vec true e (0 + m) cols')) (by simp), hfr]
  obtain ⟨a1, a2, _⟩ := hargs
  have a1 : a.eval sx = .slice none 0 0 := a1
  have c2 := srcOf_ok hB h2 hnd (hrd id2 (by simp)) a2
  obtain ⟨v', w', β', r1, r2, r3, r4, r5, r6⟩ := append_step (P := P) (ty := o.type) hTy (s2 := s2) (fresh := fresh) (x1 := .slice none 0 0) hC hB hcl happ hpl (nil_vec β w e cols2) (fun b hb => by cases hb) q3
    (fun i q p b _ _ _ _ hf1 => by cases hf1) c2 hneed hbp
  obtain ⟨dst, op, type, pos, after, guard⟩ := o
  simp only at ho; subst ho
  unfold Oper.wp
  have e1 : (execOp a.eval ⟨dst, .call { callee := .builtin .append, args := #[sx, xx], argTypes := #[t, t] }, type, pos, after, guard⟩).run P w = .ok (.value v') w' := by
    simp only [execOp, resolve, invoke, builtin, Sem.run_bind, Sem.run_pure, Result.andThen_ok]
    have : #[sx, xx].map a.eval = #[.slice none 0 0, a.eval xx] := by simp [a1]
    rw [this]
    rw [show (Builtin.append_ #[t, t] type #[.slice none 0 0, a.eval xx]).run P w = .ok v' w' from r1]
    rfl
  rw [e1]
  exact hK _ _ ⟨r2, β', Bm.le_trans hb r3, r6.put hd (v := .val (.one (.vec fresh))) ⟨r4, r5⟩⟩
end
end Go.Proofs.YtpdijogpbnaplaaDoorHz
namespace Go.Proofs.YtpdijogpbnaplaaDoorHz
open Go Go.RowKit
section
variable {P : Program}

def putB (g : Nat → Nat → Int) (b i : Nat) (v : Int) : Nat → Nat → Int := fun c j => if c = b then (if j = i then v else g c j) else g c j
theorem fam_cell {β : Bm} {w : World} {own : Bool} {e : TypeId} {k : IntKind} {len : Nat → Nat} {dom : Nat → Bool} {g : Nat → Nat → Int} {p : Pl} (hok : (Ob.fam own e k len dom g).ok β w p) {b i : Nat} (hb : dom b = true) (hi : i < len b) :
    w.cell? ⟨b, i, none⟩ = some (.int k (g b i)) := by
  exact (hok b hb).2.1 i hi
theorem reads_fptr {t : TypeId} {x : Operand} {id hid b off : Nat} {len : Nat → Nat} {own : Bool} {e : TypeId} {k : IntKind} {dom : Nat → Bool} {g : Nat → Nat → Int} (hag : tyAgg P t = some false) (hb : dom b = true) (hi : off < len b) :
    Reads P (.load t x) [.val (.one (.fptr hid b off))] id (.fam own e k len dom g) (.val (.one (.int k (.tm (g b off))))) := by
  intro β ρ o w p ho h hp hok
  obtain ⟨dst, op, type, pos, after, guard⟩ := o; simp only at ho; subst ho
  have hx : ρ x = .pointer (some ⟨b, off, none⟩) := h.1
  refine ⟨.int k (g b off), rfl, ?_⟩
  simp only [execOp, Instr.loadAt, hx, Instr.sureAddr, loadVar, Sem.run_bind, Sem.run_pure, tyAgg_ok hag, Result.andThen_ok, Bool.false_eq_true, if_false, run_load, fam_cell hok hb hi]
theorem reads_fptrR {t : TypeId} {x : Operand} {id hid b off : Nat} {k : IntKind} {dom : Nat → Bool} {vis g} (hag : tyAgg P t = some false) (hb : dom b = true) (hi : vis b off = true) :
    Reads P (.load t x) [.val (.one (.fptr hid b off))] id (.rof k dom vis g) (.val (.one (.int k (.tm (g b off))))) := by
  intro β ρ o w p ho h hp hok
  obtain ⟨dst, op, type, pos, after, guard⟩ := o; simp only at ho; subst ho
  have hx : ρ x = .pointer (some ⟨b, off, none⟩) := h.1
  refine ⟨.int k (g b off), rfl, ?_⟩
  simp only [execOp, Instr.loadAt, hx, Instr.sureAddr, loadVar, Sem.run_bind, Sem.run_pure, tyAgg_ok hag, Result.andThen_ok, Bool.false_eq_true, if_false, run_load, (hok b hb).2 off hi]
theorem writes_fptr {t : TypeId} {x y : Operand} {id hid b off : Nat} {len : Nat → Nat} {e : TypeId} {k : IntKind} {dom : Nat → Bool} {g : Nat → Nat → Int} {v : N} (hsz : tySize P t = some 1) (hb : dom b = true) (hi : off < len b) :
    Writes P (.store t x y) [.val (.one (.fptr hid b off)), .val (.one (.int k v))] id (.fam true e k len dom g) (.fam true e k len dom (putB g b off v.v)) := by
  refine ⟨rfl, rfl, fun _ _ h => h, fun β ρ o w p hop h hp hok => ?_⟩
  obtain ⟨dst, op, type, pos, after, guard⟩ := o; simp only at hop; subst hop
  obtain ⟨hx, hy, _⟩ := h
  have hx : ρ x = .pointer (some ⟨b, off, none⟩) := hx
  have hy : ρ y = .int k v.v := hy
  have hok0 := hok
  obtain ⟨hlt, h4, h5⟩ := hok b hb
  obtain ⟨cs, h2, h3⟩ := h5 rfl
  have hfz : noFreeze w b := fun j => by simp [World.frozen?, h2]
  obtain ⟨w', r1, r2⟩ := storeRun (P := P) (b := b) [Value.int k v.v] off 0 w (by simp [Value.oneCell']) (fun j hj => ⟨.int k (g b off), by
    have : j = 0 := by simpa using hj
    subst this
    exact fam_cell hok0 hb hi⟩) hfz
  rw [Nat.add_zero] at r2
  have hshape := r2.shape cs e (0, 0) h2
  refine ⟨w', ?_, r2.os, r2.tape, r2.output, r2.size, fun j hj => r2.other j (fun e => hj (by rw [e]; exact hb)), fun c hc => ?_⟩
  · have hsize : ¬ ((Value.int k v.v).cells.size ≠ 1) := by simp [Value.cells]
    have hcl : (Value.int k v.v).cells.toList = [.int k v.v] := rfl
    simp only [execOp, Instr.storeAt, hx, hy, Instr.sureAddr, storeVar, Sem.run_bind, Sem.run_pure, tySize_ok hsz, Result.andThen_ok, if_neg hsize, hcl, r1]
  · by_cases hcb : c = b
    · subst hcb
      obtain ⟨cs', q1, q2⟩ := hshape
      refine ⟨by rw [r2.size]; exact hlt, fun j hj => ?_, fun _ => ⟨cs', q1, by omega⟩⟩
      by_cases hjo : j = off
      · subst hjo
        have := r2.hit 0 _ rfl
        rw [Nat.add_zero] at this
        rw [this]; simp [putB]
      · rw [r2.miss j (by simp; omega), fam_cell hok0 hb hj]
        simp [putB, hjo]
    · obtain ⟨g1, g2, g3⟩ := hok0 c hc
      refine ⟨by rw [r2.size]; exact g1, fun j hj => ?_, fun ho => by rw [r2.other c hcb]; exact g3 ho⟩
      rw [cell?_same (r2.other c hcb), g2 j hj]; simp [putB, hcb]
theorem gives_indexFptr {t : TypeId} {x i : Operand} {k : IntKind} {e : N} {len el hid b off : Nat} (h1 : P.underlying t = some (.array len el)) (hn : tySize P el = some 1) (h0 : 0 ≤ e.v) (hlt : e.v < len) :
    Gives P (.indexAddr t x i) [.val (.one (.fptr hid b off)), .val (.one (.int k e))] (.val (.one (.fptr hid b (off + e.v.toNat)))) := by
  intro β ρ o ho hr
  obtain ⟨dst, op, type, pos, after, guard⟩ := o; simp only at ho; subst ho
  obtain ⟨hx, hi, _⟩ := hr
  have hx : ρ x = .pointer (some ⟨b, off, none⟩) := hx
  have hi' : ρ i = .int k e.v := hi
  refine ⟨.pointer (some ⟨b, off + e.v.toNat, none⟩), rfl, fun w => ?_⟩
  simp only [execOp, Instr.indexAt, hx, hi', asIntOf, Sem.run_bind, Sem.run_pure, run_under h1, Result.andThen_ok, Instr.sureAddr, if_pos (And.intro h0 hlt), tySize_ok hn, addr_add, Nat.mul_one]
theorem gives_indexFsub {t el : TypeId} {x i : Operand} {k : IntKind} {e : N} {hid b lo n : Nat} (h1 : P.underlying t = some (.slice el)) (hn : tySize P el = some 1) (h0 : 0 ≤ e.v) (hlt : e.v < n) :
    Gives P (.indexAddr t x i) [.val (.one (.fsub hid b lo n)), .val (.one (.int k e))] (.val (.one (.fptr hid b (lo + e.v.toNat)))) := by
  intro β ρ o ho hr
  obtain ⟨dst, op, type, pos, after, guard⟩ := o; simp only at ho; subst ho
  obtain ⟨hx, hi, _⟩ := hr
  have hi' : ρ i = .int k e.v := hi
  rcases hx with ⟨_, c, _, rfl⟩ | ⟨o', c, hx, _, hlo⟩
  · exfalso; simp at hlt; omega
  have hlo := hlo (by omega)
  subst hlo
  refine ⟨.pointer (some ⟨b, o' + e.v.toNat, none⟩), rfl, fun w => ?_⟩
  simp only [execOp, Instr.indexAt, hx, hi', asIntOf, Sem.run_bind, Sem.run_pure, run_under h1, Result.andThen_ok, if_pos (And.intro h0 hlt), tySize_ok hn, addr_add, Nat.mul_one]
end
end Go.Proofs.YtpdijogpbnaplaaDoorHz
namespace Go.Proofs.YtpdijogpbnaplaaDoorHz
open Go Go.RowKit
section
variable {P : Program}

def putBlk (g : Nat → Nat → Int) (b : Nat) (h : Nat → Int) : Nat → Nat → Int := fun c j => if c = b then h j else g c j
def putD (dom : Nat → Bool) (b : Nat) : Nat → Bool := fun c => if c = b then true else dom c
def cpB (g : Nat → Nat → Int) (b lo m : Nat) (h : Nat → Int) : Nat → Nat → Int := fun c j => if c = b then (if lo ≤ j ∧ j < lo + m then h (j - lo) else g c j) else g c j

def rowLs (k : IntKind) (n : Nat) (g : Nat → Int) : List L := (List.range n).map fun j => .int k (.tm (g j))
theorem rowLs_get {k : IntKind} {n : Nat} {g : Nat → Int} {j : Nat} {l : L} (h : (rowLs k n g)[j]? = some l) : j < n ∧ l = .int k (.tm (g j)) := by
  unfold rowLs at h
  rw [List.getElem?_map] at h
  rcases Nat.lt_or_ge j n with hj | hj
  · rw [List.getElem?_range hj] at h; cases h; exact ⟨hj, rfl⟩
  · rw [List.getElem?_eq_none (by simpa using hj)] at h; cases h
theorem all2_rowLs {β : Bm} {k : IntKind} {n : Nat} {g : Nat → Int} {vs : List Value} (h : All2 (L.rel β) (rowLs k n g) vs) : vs.length = n ∧ ∀ j, j < n → vs[j]? = some (.int k (g j)) := by
  refine ⟨by have := h.length; simp [rowLs] at this; omega, fun j hj => ?_⟩
  obtain ⟨y, h1, h2⟩ := h.get j (.int k (.tm (g j))) (by unfold rowLs; rw [List.getElem?_map, List.getElem?_range hj]; rfl)
  rw [h1]; congr 1
theorem reads_fptrAll {t : TypeId} {x : Operand} {id hid b n : Nat} {len : Nat → Nat} {own : Bool} {e : TypeId} {k : IntKind} {dom : Nat → Bool} {g : Nat → Nat → Int} (hag : tyAgg P t = some true) (hsz : tySize P t = some n) (hb : dom b = true) (hl : len b = n) :
    Reads P (.load t x) [.val (.one (.fptr hid b 0))] id (.fam own e k len dom g) (.val (.arr k n (g b))) := by
  intro β ρ o w p ho h hp hok
  obtain ⟨dst, op, type, pos, after, guard⟩ := o; simp only at ho; subst ho
  have hx : ρ x = .pointer (some ⟨b, 0, none⟩) := h.1
  obtain ⟨vs, r1, r2⟩ := loadRun (P := P) (β := β) (w := w) (b := b) n 0 0 (rowLs k n (g b)) #[] [] (by simp [rowLs]) (fun j l hj => by
    obtain ⟨h1, rfl⟩ := rowLs_get hj
    exact ⟨.int k (g b j), by simpa using fam_cell hok hb (by omega : j < len b), rfl⟩) trivial
  obtain ⟨q1, q2⟩ := all2_rowLs (by simpa using r2)
  refine ⟨.agg vs, ⟨vs, rfl, by simpa using q1, fun j hj => by simpa using q2 j hj⟩, ?_⟩
  simp only [execOp, Instr.loadAt, hx, Instr.sureAddr, loadVar, loadCells, Sem.run_bind, Sem.run_pure, tyAgg_ok hag, tySize_ok hsz, Result.andThen_ok, if_true, r1]
theorem writes_fptrAll {t : TypeId} {x y : Operand} {id hid b n : Nat} {len : Nat → Nat} {e : TypeId} {k : IntKind} {dom : Nat → Bool} {g : Nat → Nat → Int} {h : Nat → Int} (hsz : tySize P t = some n) (hb : dom b = true) (hl : len b = n) :
    Writes P (.store t x y) [.val (.one (.fptr hid b 0)), .val (.arr k n h)] id (.fam true e k len dom g) (.fam true e k len dom (putBlk g b h)) := by
  refine ⟨rfl, rfl, fun _ _ h => h, fun β ρ o w p hop hh hp hok => ?_⟩
  obtain ⟨dst, op, type, pos, after, guard⟩ := o; simp only at hop; subst hop
  obtain ⟨hx, hy, _⟩ := hh
  have hx : ρ x = .pointer (some ⟨b, 0, none⟩) := hx
  obtain ⟨cs, hy, hcs, hcv⟩ := hy
  have hok0 := hok
  obtain ⟨hlt, h4, h5⟩ := hok b hb
  obtain ⟨cs0, h2, h3⟩ := h5 rfl
  have hfz : noFreeze w b := fun j => by simp [World.frozen?, h2]
  obtain ⟨w', r1, r2⟩ := storeRun (P := P) (b := b) cs.toList 0 0 w (fun v hv => by
    obtain ⟨j, hj⟩ := List.getElem?_of_mem hv
    have hjn : j < n := by have := (List.getElem?_eq_some_iff.1 hj).1; simp at this; omega
    have := hcv j hjn
    rw [← Array.getElem?_toList, hj] at this
    cases this; rfl) (fun j hj => ⟨_, by simpa using h4 j (by simp at hj; omega)⟩) hfz
  have hshape := r2.shape cs0 e (0, 0) h2
  refine ⟨w', ?_, r2.os, r2.tape, r2.output, r2.size, fun j hj => r2.other j (fun e => hj (by rw [e]; exact hb)), fun c hc => ?_⟩
  · have hsize : ¬ ((Value.agg cs).cells.size ≠ n) := by simp [Value.cells, hcs]
    have hcl : (Value.agg cs).cells.toList = cs.toList := rfl
    simp only [execOp, Instr.storeAt, hx, hy, Instr.sureAddr, storeVar, Sem.run_bind, Sem.run_pure, tySize_ok hsz, Result.andThen_ok, if_neg hsize, hcl, r1]
  · by_cases hcb : c = b
    · subst hcb
      obtain ⟨cs', q1, q2⟩ := hshape
      refine ⟨by rw [r2.size]; exact hlt, fun j hj => ?_, fun _ => ⟨cs', q1, by omega⟩⟩
      have := r2.hit j (.int k (h j)) (by rw [Array.getElem?_toList]; exact hcv j (by omega))
      rw [Nat.add_zero, Nat.zero_add] at this
      rw [this]; simp [putBlk]
    · obtain ⟨g1, g2, g3⟩ := hok0 c hc
      refine ⟨by rw [r2.size]; exact g1, fun j hj => ?_, fun ho => by rw [r2.other c hcb]; exact g3 ho⟩
      rw [cell?_same (r2.other c hcb), g2 j hj]; simp [putBlk, hcb]
theorem reads_fptrAt {t : TypeId} {x : Operand} {id hid b off n : Nat} {len : Nat → Nat} {own : Bool} {e : TypeId} {k : IntKind} {dom : Nat → Bool} {g : Nat → Nat → Int} (hag : tyAgg P t = some true) (hsz : tySize P t = some n) (hb : dom b = true) (hl : off + n ≤ len b) :
    Reads P (.load t x) [.val (.one (.fptr hid b off))] id (.fam own e k len dom g) (.val (.arr k n fun j => g b (off + j))) := by
  intro β ρ o w p ho h hp hok
  obtain ⟨dst, op, type, pos, after, guard⟩ := o; simp only at ho; subst ho
  have hx : ρ x = .pointer (some ⟨b, off, none⟩) := h.1
  obtain ⟨vs, r1, r2⟩ := loadRun (P := P) (β := β) (w := w) (b := b) n off 0 (rowLs k n fun j => g b (off + j)) #[] [] (by simp [rowLs]) (fun j l hj => by
    obtain ⟨h1, rfl⟩ := rowLs_get hj
    exact ⟨.int k (g b (off + j)), by simpa using fam_cell hok hb (by omega : off + j < len b), rfl⟩) trivial
  obtain ⟨q1, q2⟩ := all2_rowLs (by simpa using r2)
  refine ⟨.agg vs, ⟨vs, rfl, by simpa using q1, fun j hj => by simpa using q2 j hj⟩, ?_⟩
  simp only [execOp, Instr.loadAt, hx, Instr.sureAddr, loadVar, loadCells, Sem.run_bind, Sem.run_pure, tyAgg_ok hag, tySize_ok hsz, Result.andThen_ok, if_true, r1]
theorem writes_fptrAt {t : TypeId} {x y : Operand} {id hid b off n : Nat} {len : Nat → Nat} {e : TypeId} {k : IntKind} {dom : Nat → Bool} {g : Nat → Nat → Int} {h : Nat → Int} (hsz : tySize P t = some n) (hb : dom b = true) (hl : off + n ≤ len b) :
    Writes P (.store t x y) [.val (.one (.fptr hid b off)), .val (.arr k n h)] id (.fam true e k len dom g) (.fam true e k len dom (cpB g b off n h)) := by
  refine ⟨rfl, rfl, fun _ _ h => h, fun β ρ o w p hop hh hp hok => ?_⟩
  obtain ⟨dst, op, type, pos, after, guard⟩ := o; simp only at hop; subst hop
  obtain ⟨hx, hy, _⟩ := hh
  have hx : ρ x = .pointer (some ⟨b, off, none⟩) := hx
  obtain ⟨cs, hy, hcs, hcv⟩ := hy
  have hok0 := hok
  obtain ⟨hlt, h4, h5⟩ := hok b hb
  obtain ⟨cs0, h2, h3⟩ := h5 rfl
  have hfz : noFreeze w b := fun j => by simp [World.frozen?, h2]
  obtain ⟨w', r1, r2⟩ := storeRun (P := P) (b := b) cs.toList off 0 w (fun v hv => by
    obtain ⟨j, hj⟩ := List.getElem?_of_mem hv
    have hjn : j < n := by have := (List.getElem?_eq_some_iff.1 hj).1; simp at this; omega
    have := hcv j hjn
    rw [← Array.getElem?_toList, hj] at this
    cases this; rfl) (fun j hj => ⟨_, by simpa using h4 (off + j) (by simp at hj; omega)⟩) hfz
  rw [Nat.add_zero] at r2
  have hshape := r2.shape cs0 e (0, 0) h2
  refine ⟨w', ?_, r2.os, r2.tape, r2.output, r2.size, fun j hj => r2.other j (fun e => hj (by rw [e]; exact hb)), fun c hc => ?_⟩
  · have hsize : ¬ ((Value.agg cs).cells.size ≠ n) := by simp [Value.cells, hcs]
    have hcl : (Value.agg cs).cells.toList = cs.toList := rfl
    simp only [execOp, Instr.storeAt, hx, hy, Instr.sureAddr, storeVar, Sem.run_bind, Sem.run_pure, tySize_ok hsz, Result.andThen_ok, if_neg hsize, hcl, r1]
  · by_cases hcb : c = b
    · subst hcb
      obtain ⟨cs', q1, q2⟩ := hshape
      refine ⟨by rw [r2.size]; exact hlt, fun j hj => ?_, fun _ => ⟨cs', q1, by omega⟩⟩
      by_cases hin : off ≤ j ∧ j < off + n
      · have := r2.hit (j - off) (.int k (h (j - off))) (by rw [Array.getElem?_toList]; exact hcv _ (by omega))
        rw [show off + (j - off) = j by omega] at this
        rw [this]; simp only [cpB, if_true, if_pos hin]
      · rw [r2.miss j (by simp [hcs]; omega), h4 j hj]; simp only [cpB, if_true, if_neg hin]
    · obtain ⟨g1, g2, g3⟩ := hok0 c hc
      refine ⟨by rw [r2.size]; exact g1, fun j hj => ?_, fun ho => by rw [r2.other c hcb]; exact g3 ho⟩
      rw [cell?_same (r2.other c hcb), g2 j hj]; simp only [cpB, if_neg hcb]
def isZ (k : IntKind) : Value → Bool
  | .int k' m => kindEq k k' && decide (m = 0)
  | _ => false
theorem isZ_ok {k : IntKind} {v : Value} (h : isZ k v = true) : v = .int k 0 := by
  unfold isZ at h
  split at h
  · simp only [Bool.and_eq_true, decide_eq_true_eq] at h
    obtain ⟨h1, rfl⟩ := h
    rw [kindEq_eq h1]
  · cases h
def arrZero (P : Program) (t : TypeId) : Option (IntKind × Nat) :=
  match P.underlying t with
  | some (.array n el) => match P.underlying el, P.info? t with
    | some (.int k), some i => match i.zero with
      | some (.agg cs) => if Nat.blt 16 n && Nat.beq cs.size n && Nat.beq i.size n && cs.toList.all (isZ k) then some (k, n) else none
      | _ => none
    | _, _ => none
  | _ => none
structure ArrZero (P : Program) (t : TypeId) (k : IntKind) (n : Nat) (cs : Array Value) : Prop where
  under : ∃ el, P.underlying t = some (.array n el)
  info : ∃ i, P.info? t = some i ∧ i.zero = some (.agg cs) ∧ i.size = n
  size : cs.size = n
  all : ∀ j, j < n → cs[j]? = some (.int k 0)
theorem arrZero_ok {t : TypeId} {k : IntKind} {n : Nat} (h : arrZero P t = some (k, n)) : ∃ cs, ArrZero P t k n cs := by
  unfold arrZero at h
  split at h
  · rename_i n' el hu
    split at h
    · rename_i k' i hk hi
      split at h
      · rename_i cs hz
        split at h
        · rename_i hc
          simp only [Bool.and_eq_true, List.all_eq_true] at hc
          cases h
          have h1 := Nat.eq_of_beq_eq_true hc.1.1.2
          refine ⟨cs, ⟨el, hu⟩, ⟨i, hi, hz, Nat.eq_of_beq_eq_true hc.1.2⟩, h1, fun j hj => ?_⟩
          have hj2 : j < cs.toList.length := by simp; omega
          have := isZ_ok (hc.2 _ (List.getElem_mem hj2))
          rw [← Array.getElem?_toList, List.getElem?_eq_getElem hj2, this]
        · cases h
      · cases h
    · cases h
  · cases h
theorem ArrZero.run {t : TypeId} {k : IntKind} {n : Nat} {cs : Array Value} (h : ArrZero P t k n cs) (w : World) : (zeroValue t).run P w = .ok (.agg cs) w := by
  obtain ⟨i, hi, hz, _⟩ := h.info
  unfold zeroValue
  simp only [Sem.run_bind, run_info hi, Result.andThen_ok, hz]; rfl
theorem gives_buildZero {t el : TypeId} {n sz : Nat} {k : IntKind} (h : arrZero P t = some (k, n)) (hu : P.underlying t = some (.array n el)) (hs : tySize P el = some sz) : Gives P (.build t #[]) [] (.val (.arr k n (fun _ => 0))) := by
  intro β ρ o ho _
  obtain ⟨dst, op, type, pos, after, guard⟩ := o; simp only at ho; subst ho
  obtain ⟨cs, hz⟩ := arrZero_ok h
  refine ⟨.agg cs, ⟨cs, rfl, hz.size, hz.all⟩, fun w => ?_⟩
  simp [execOp, Instr.build, Sem.run_bind, hz.run, Result.andThen_ok, run_under hu, tySize_ok hs, Instr.fill, Value.cells]
def rowEq (n : Nat) (g h : Nat → Int) : Bool := (List.range n).all fun j => decide (g j = h j)
theorem rowEq_iff {n : Nat} {g h : Nat → Int} : rowEq n g h = true ↔ ∀ j, j < n → g j = h j := by
  simp [rowEq]
theorem run_equalRow {d : Nat} {t el : TypeId} {n : Nat} {k : IntKind} (hu : P.underlying t = some (.array n el)) (he : P.underlying el = some (.int k)) (hs : tySize P el = some 1) {as bs : Array Value} {g h : Nat → Int}
    (hag : ∀ j, j < n → as[j]? = some (.int k (g j))) (hbg : ∀ j, j < n → bs[j]? = some (.int k (h j))) (w : World) : (Op.equalIn (d + 2) t (.agg as) (.agg bs)).run P w = .ok (rowEq n g h) w := by
  rw [Op.equalIn]
  simp only [Sem.run_bind, run_under hu, Result.andThen_ok, tySize_ok hs, Std.Legacy.Range.forIn_eq_forIn_range', Std.Legacy.Range.size, Nat.sub_zero, Nat.add_sub_cancel, Nat.div_one]
  unfold rowEq
  rw [List.range_eq_range']
  have hl : ∀ i ∈ List.range' 0 n 1, i < n := fun i hi => by simpa using (List.mem_range'_1.1 hi).2
  generalize List.range' 0 n 1 = l at hl ⊢
  induction l with
  | nil => simp
  | cons i l ih =>
    have hi : i < n := hl i (by simp)
    have px : (part el as (i * 1)).run P w = .ok (.int k (g i)) w := by
      simp [part, isAgg, run_under he, hag i hi]
    have py : (part el bs (i * 1)).run P w = .ok (.int k (h i)) w := by
      simp [part, isAgg, run_under he, hbg i hi]
    have pe : (Op.equalIn (d + 1) el (.int k (g i)) (.int k (h i))).run P w = .ok (decide (g i = h i)) w := by
      rw [run_equalIn_int w d el k k _ _ he]; rfl
    simp only [List.forIn_cons, Sem.run_bind, px, py, pe, Result.andThen_ok, List.all_cons]
    cases hb : decide (g i = h i)
    · simp
    · simp only [Bool.not_true, Bool.false_eq_true, if_false, Sem.run_pure, Result.andThen_ok, Bool.true_and]
      exact ih fun j hj => hl j (by simp [hj])
theorem gives_rowEq {t yt el : TypeId} {x y : Operand} {op : BinOp} {n : Nat} {k : IntKind} {g h : Nat → Int} {e : B} (hu : P.underlying t = some (.array n el)) (he : P.underlying el = some (.int k)) (hs : tySize P el = some 1) (hg : P.eqGuardType P.depth t = false)
    (hop : op = .eql ∧ e = .tm (rowEq n g h) ∨ op = .neq ∧ e = .tm (!rowEq n g h)) : Gives P (.binOp op t x y yt) [.val (.arr k n g), .val (.arr k n h)] (.val (.one (.bool e))) := by
  intro β ρ o ho hr
  obtain ⟨dst, op', type, pos, after, guard⟩ := o; simp only at ho; subst ho
  obtain ⟨⟨as, hx, _, hag⟩, ⟨bs, hy, _, hbg⟩, _⟩ := hr
  refine ⟨.bool e.v, rfl, fun w => ?_⟩
  rcases hop with ⟨rfl, rfl⟩ | ⟨rfl, rfl⟩
  · simp only [execOp, hx, hy, Sem.run_bind, run_eqGuard_agg w .eql t x y as bs hg, Result.andThen_ok, run_eql_struct, run_equalRow (d := 9998) hu he hs hag hbg w]
    rfl
  · simp only [execOp, hx, hy, Sem.run_bind, run_eqGuard_agg w .neq t x y as bs hg, Result.andThen_ok, run_neq_struct, run_equalRow (d := 9998) hu he hs hag hbg w]
    rfl
theorem grow_rep {X : Cx} {D : Dx} {β : Bm} {s2 : S} {a : Act} {w : World} (hc : Chg D w) (hB : RepB X D β s2 a w) {fid n : Nat} {e : TypeId} {k : IntKind} {len : Nat → Nat} {dom : Nat → Bool} {g : Nat → Nat → Int} (hs : s2.blk fid = some (.fam true e k len dom g)) (hlen : ∀ b, len b = n)
    {cs : Array Value} {h : Nat → Int} (hsz : cs.size = n) (hcs : ∀ j, j < n → cs[j]? = some (.int k (h j))) :
    dom w.heap.size = false ∧ Chg D (w.alloc (.cells cs e)) ∧ RepB X D β ⟨s2.tmp, upd s2.blk (look [(fid, some (.fam true e k len (putD dom w.heap.size) (putBlk g w.heap.size h)))])⟩ a (w.alloc (.cells cs e)) := by
  obtain ⟨p, k1, k2, k3⟩ := hB.mem fid _ hs
  have hno : dom w.heap.size = false := by
    cases hd : dom w.heap.size with
    | false => rfl
    | true => have := (k2 w.heap.size hd).1; omega
  have hbase := Nat.le_trans hc.base hc.size
  have old : ∀ j, j < w.heap.size → (w.alloc (.cells cs e)).heap[j]? = w.heap[j]? := fun j hj => Below.heap_alloc _ _ _ hj
  refine ⟨hno, hc.later rfl rfl rfl (by simp) (fun j hj _ => old j (by omega)), hB.write hs rfl rfl k1 (by simp) (fun j hj _ => old j hj) hbase (fun b hb => ?_) (fun b hb => ?_)⟩
  · have hb : putD dom w.heap.size b = true := hb
    unfold putD at hb
    by_cases hbn : b = w.heap.size
    · subst hbn
      have hnew := heap_alloc_new w (.cells cs e)
      refine ⟨by simp, fun j hj => ?_, fun _ => ⟨cs, hnew, by rw [hlen, hsz]⟩⟩
      simp only [World.cell?, hnew, Option.isSome_none, Bool.false_eq_true, if_false, putBlk, if_true]
      exact hcs j (by rw [hlen] at hj; exact hj)
    · rw [if_neg hbn] at hb
      obtain ⟨r1, r2, r3⟩ := k2 b hb
      refine ⟨by simp; omega, fun j hj => ?_, fun ho => by rw [old b r1]; exact r3 ho⟩
      rw [cell?_same (old b r1), r2 j hj]; simp [putBlk, hbn]
  · have hb : putD dom w.heap.size b = true := hb
    unfold putD at hb
    by_cases hbn : b = w.heap.size
    · exact .inr (by omega)
    · rw [if_neg hbn] at hb; exact .inl hb
def MakesBlk (P : Program) (op : Op) (args : List V) (e : TypeId) (k : IntKind) (n : Nat) (h : Nat → Int) (v : Nat → V) : Prop :=
  ∀ (β : Bm) (ρ : Operand → Value) (o : Oper) (w : World), o.op = op → All2 (V.rel β) args (op.operands.toList.map ρ) → ∃ (x : Value) (cs : Array Value), (∀ β', (v w.heap.size).rel β' x) ∧ cs.size = n ∧ (∀ j, j < n → cs[j]? = some (.int k (h j))) ∧ (execOp ρ o).run P w = .ok (.value x) (w.alloc (.cells cs e))
theorem MakesBlk.eff {X : Cx} {op : Op} {args : List V} {e : TypeId} {k : IntKind} {n : Nat} {h : Nat → Int} {v : Nat → V} (hm : MakesBlk P op args e k n h v) {s : S} {fid : Nat} {len : Nat → Nat} {dom : Nat → Bool} {g : Nat → Nat → Int} (hs : s.blk fid = some (.fam true e k len dom g)) (hlen : ∀ b, len b = n) :
    RelOk P X op s args Nat [] [fid] (fun b => some (dom b = false)) (fun b => (v b, [(fid, some (.fam true e k len (putD dom b) (putBlk g b h)))])) := by
  intro o ho hd D s2 a w β hc hb0 hB hargs _ hwi K Q hK
  have hs2 : s2.blk fid = some (.fam true e k len dom g) := by rw [hwi fid (by simp), hs]
  obtain ⟨x, cs, h1, h2, h3, h4⟩ := hm β a.eval o w ho hargs
  obtain ⟨r1, r2, r3⟩ := grow_rep hc hB hs2 hlen h2 h3
  unfold Oper.wp
  rw [h4]
  exact hK w.heap.size r1 _ _ ⟨r2, β, hb0, r3.put hd (h1 β)⟩
theorem MakesBlk.eff0 {X : Cx} {op : Op} {args : List V} {e : TypeId} {k : IntKind} {n : Nat} {h : Nat → Int} {v : Nat → V} (hm : MakesBlk P op args e k n h v) {s : S} {fid : Nat} (hs : s.blk fid = none) :
    RelOk P X op s args Nat [] [fid] (fun _ => none) (fun b => (v b, [(fid, some (.fam true e k (fun _ => n) (putD (fun _ => false) b) (putBlk (fun _ _ => 0) b h)))])) := by
  intro o ho hd D s2 a w β hc hb0 hB hargs _ hwi K Q hK
  have hs2 : s2.blk fid = none := by rw [hwi fid (by simp), hs]
  obtain ⟨hle, hB1⟩ := hB.fresh hs2 (o := .fam true e k (fun _ => n) (fun _ => false) (fun _ _ => 0)) (p := .blk 0) (Nat.le_trans hc.base hc.size) (fun b hb => by cases hb) (fun b hb => by cases hb)
  obtain ⟨x, cs, h1, h2, h3, h4⟩ := hm β a.eval o w ho hargs
  obtain ⟨r1, r2, r3⟩ := grow_rep hc hB1 (fid := fid) (e := e) (len := fun _ => n) (dom := fun _ => false) (g := fun _ _ => 0) (by simp [upd_one]) (fun _ => rfl) h2 h3
  unfold Oper.wp
  rw [h4]
  refine hK w.heap.size trivial _ _ ⟨r2, _, Bm.le_trans hb0 hle, ?_⟩
  have e1 : ∀ u : Option Ob, upd (upd s2.blk (look [(fid, some (.fam true e k (fun _ => n) (fun _ => false) (fun _ _ => 0)))])) (look [(fid, u)]) = upd s2.blk (look [(fid, u)]) := fun u => by
    funext i
    simp only [upd_one]
    split <;> rfl
  have r4 := r3.put hd (h1 _)
  simp only [e1] at r4
  exact r4
theorem makesBlk_alloc {t : TypeId} {k : IntKind} {n hid : Nat} (h : arrZero P t = some (k, n)) : MakesBlk P (.alloc t) [] t k n (fun _ => 0) (fun b => .val (.one (.fptr hid b 0))) := by
  intro β ρ o w ho _
  obtain ⟨dst, op, type, pos, after, guard⟩ := o; simp only at ho; subst ho
  obtain ⟨cs, hz⟩ := arrZero_ok h
  refine ⟨.pointer (some ⟨w.heap.size, 0, none⟩), cs, fun _ => rfl, hz.size, hz.all, ?_⟩
  simp only [execOp, Instr.alloc, Sem.run_bind, hz.run, Result.andThen_ok, newVar, newRow, run_newObj, Sem.run_pure, Value.cells]
  rfl
theorem makesBlk_box {t : TypeId} {x : Operand} {k : IntKind} {n hid : Nat} {g : Nat → Int} : MakesBlk P (.box t x) [.val (.arr k n g)] t k n g (fun b => .val (.one (.fptr hid b 0))) := by
  intro β ρ o w ho hr
  obtain ⟨dst, op, type, pos, after, guard⟩ := o; simp only at ho; subst ho
  obtain ⟨⟨cs, hx, h1, h2⟩, _⟩ := hr
  have hx : ρ x = .agg cs := hx
  refine ⟨.pointer (some ⟨w.heap.size, 0, none⟩), cs, fun _ => rfl, h1, h2, ?_⟩
  simp only [execOp, Instr.box, hx, Sem.run_bind, Result.andThen_ok, newVar, newRow, run_newObj, Sem.run_pure, Value.cells]
  rfl
def sliceZero (P : Program) (t : TypeId) : Option (TypeId × IntKind) :=
  match P.underlying t with
  | some (.slice el) => match P.underlying el, P.info? el with
    | some (.int k), some i => match i.zero with
      | some z => if isZ k z && Nat.beq i.size 1 && Nat.ble i.bytes 8 then some (el, k) else none
      | none => none
    | _, _ => none
  | _ => none
theorem sliceZero_ok {t el : TypeId} {k : IntKind} (h : sliceZero P t = some (el, k)) : P.underlying t = some (.slice el) ∧ P.underlying el = some (.int k) ∧ ∃ i, P.info? el = some i ∧ i.zero = some (.int k 0) ∧ i.size = 1 ∧ i.bytes ≤ 8 := by
  unfold sliceZero at h
  split at h
  · rename_i el' hu
    split at h
    · rename_i k' i hk hi
      split at h
      · rename_i z hz
        split at h
        · rename_i hc
          simp only [Bool.and_eq_true] at hc
          cases h
          exact ⟨hu, hk, i, hi, by rw [hz, isZ_ok hc.1.1], Nat.eq_of_beq_eq_true hc.1.2, Nat.le_of_ble_eq_true hc.2⟩
        · cases h
      · cases h
    · cases h
  · cases h
theorem madeZ (k : IntKind) (n j : Nat) (h : j < n) : (madeCells (Value.int k 0).cells n)[j]? = some (.int k 0) := by
  simp [madeCells, Value.cells, h, Nat.mod_one]
theorem makesBlk_slice {t el : TypeId} {x y : Operand} {k kl kc : IntKind} {n hid : Nat} {e1 e2 : N} (h : sliceZero P t = some (el, k)) (h1 : e1.v = n) (h2 : e2.v = n) (hn : n ≤ 35184372088832) :
    MakesBlk P (.makeSlice t x y) [.val (.one (.int kl e1)), .val (.one (.int kc e2))] el k n (fun _ => 0) (fun b => .val (.one (.fsub hid b 0 n))) := by
  intro β ρ o w ho hr
  obtain ⟨dst, op, type, pos, after, guard⟩ := o; simp only at ho; subst ho
  obtain ⟨hx, hy, _⟩ := hr
  have hx : ρ x = .int kl n := by have hx : ρ x = .int kl e1.v := hx; rw [hx, h1]
  have hy : ρ y = .int kc n := by have hy : ρ y = .int kc e2.v := hy; rw [hy, h2]
  obtain ⟨hu, _, i, hi, hz, hs1, hb⟩ := sliceZero_ok h
  have hbn : i.bytes * n ≤ 8 * n := Nat.mul_le_mul_right _ hb
  have hb2 : (i.bytes : Int) * (n : Int) ≤ 281474976710656 := by
    have : ((i.bytes * n : Nat) : Int) ≤ 281474976710656 := by omega
    rwa [Int.natCast_mul] at this
  have hr := run_make (P := P) w t el i (.int k 0) hu hi hz kl kc n n (by omega) (Int.le_refl _) hb2 (by omega)
  simp only [Int.toNat_natCast, hs1, Nat.mul_one] at hr
  refine ⟨_, _, fun _ => .inr ⟨0, n, rfl, Nat.le_refl _, fun _ => rfl⟩, size_madeCells _ _, fun j hj => madeZ k n j hj, ?_⟩
  simp only [execOp, hx, hy, Sem.run_bind, hr, Result.andThen_ok, Sem.run_pure]
def mkMax (P : Program) (el : TypeId) : Nat := match P.info? el with
  | some i => (match Nat.beq i.bytes 1 with | true => 281474976710656 | false => 35184372088832)
  | none => 35184372088832
theorem makes_slice {t el : TypeId} {x y : Operand} {k kl kc : IntKind} {fresh : Nat} {e1 e2 : N} (h : sliceZero P t = some (el, k)) (h0 : 0 ≤ e1.v) (h1 : e1.v ≤ e2.v) (h2 : e2.v.toNat ≤ mkMax P el) :
    Makes P (.makeSlice t x y) [.val (.one (.int kl e1)), .val (.one (.int kc e2))] (.vec fresh) fresh (.vec true el e1.v.toNat [.ints k fun _ => 0]) := by
  intro β ρ o w ho hr
  obtain ⟨dst, op, type, pos, after, guard⟩ := o; simp only at ho; subst ho
  obtain ⟨hx, hy, _⟩ := hr
  have hx : ρ x = .int kl e1.v := hx
  have hy : ρ y = .int kc e2.v := hy
  obtain ⟨hu, _, i, hi, hz, hs1, hb⟩ := sliceZero_ok h
  have hbn : (i.bytes : Int) * e2.v ≤ 8 * e2.v := Int.mul_le_mul_of_nonneg_right (by omega) (by omega)
  have hbm : (i.bytes : Int) * e2.v ≤ 281474976710656 ∧ e2.v ≤ 281474976710656 := by
    unfold mkMax at h2
    rw [hi] at h2
    simp only at h2
    split at h2
    · rename_i hb1
      rw [Nat.eq_of_beq_eq_true hb1]
      exact ⟨by omega, by omega⟩
    · exact ⟨by omega, by omega⟩
  have hr := run_make (P := P) w t el i (.int k 0) hu hi hz kl kc e1.v e2.v h0 h1 hbm.1 (by omega)
  simp only [hs1, Nat.mul_one] at hr
  refine ⟨.slice (some ⟨w.heap.size, 0, none⟩) e1.v.toNat e2.v.toNat, w.alloc (.cells (madeCells (Value.int k 0).cells e2.v.toNat) el), .val (.slice (some ⟨w.heap.size, 0, none⟩) e1.v.toNat e2.v.toNat), ?_, rfl, rfl, rfl, by simp, fun j hj => Below.heap_alloc w (.cells (madeCells (Value.int k 0).cells e2.v.toNat) el) j hj, fun b hb => (by cases hb; exact Nat.le_refl _), fun β' _ hfr => ⟨⟨by omega, .inr ⟨w.heap.size, 0, e2.v.toNat, rfl, by simp, by omega, fun j hj q c hc => ?_, fun _ => ⟨rfl, by omega, _, heap_alloc_new w _, by simp [size_madeCells]⟩⟩⟩, hfr, _, _, _, rfl⟩⟩
  · simp only [execOp, hx, hy, Sem.run_bind, hr, Result.andThen_ok, Sem.run_pure]
  · cases q with
    | succ q => simp at hc
    | zero =>
      simp at hc; subst hc
      have hh := heap_alloc_new w (.cells (madeCells (Value.int k 0).cells e2.v.toNat) el)
      refine ⟨.int k 0, ?_, rfl⟩
      simp only [World.cell?, hh, Option.isSome_none, Bool.false_eq_true, if_false, List.length_cons, List.length_nil, Nat.zero_add, Nat.mul_one, Nat.add_zero]
      exact madeZ k _ j (by omega)
theorem fillN : ∀ (vs : List Value) (j : Nat) (ds : Array Value), (∀ v ∈ vs, v.cells = #[v]) → j + vs.length ≤ ds.size →
    ∃ cs, Instr.fill (fun i => some (i * 1, 1)) ds ((vs.zipIdx j).map fun p => (p.2, p.1)) = some cs ∧ cs.toList = ds.toList.take j ++ vs ++ ds.toList.drop (j + vs.length)
  | [], j, ds, _, _ => ⟨ds, rfl, by simp⟩
  | v :: vs, j, ds, hv, h => by
    simp only [List.length_cons] at h
    have hvc := hv v (by simp)
    obtain ⟨cs, h1, h2⟩ := fillN vs (j + 1) (ds.setIfInBounds j v) (fun x hx => hv x (by simp [hx])) (by simp; omega)
    refine ⟨cs, ?_, ?_⟩
    · simp only [List.zipIdx_cons, List.map_cons, Instr.fill]
      rw [if_neg (by simp [hvc]; omega), hvc]
      simpa using h1
    · rw [h2, Array.toList_setIfInBounds, set_split v _ _ (by simp; omega)]
      have hl : (ds.toList.take j).length = j := by simp; omega
      have e1 : (ds.toList.take j ++ v :: ds.toList.drop (j + 1)).take (j + 1) = ds.toList.take j ++ [v] := by
        rw [List.take_append, hl, show j + 1 - j = 1 by omega, List.take_of_length_le (by omega)]; rfl
      have e2 : (ds.toList.take j ++ v :: ds.toList.drop (j + 1)).drop (j + 1 + vs.length) = ds.toList.drop (j + (vs.length + 1)) := by
        rw [List.drop_append, hl, List.drop_eq_nil_of_le (by omega), show j + 1 + vs.length - j = vs.length + 1 by omega, List.nil_append, List.drop_succ_cons, List.drop_drop]
        congr 1; omega
      rw [e1, List.length_cons, e2]
      simp
def intsW (k : IntKind) : List V → Option (List N)
  | [] => some []
  | .val (.one (.int k' e)) :: r => if k' = k then (match intsW k r with | some l => some (e :: l) | none => none) else none
  | _ => none
theorem intsW_ok {k : IntKind} {β : Bm} : ∀ {args : List V} {es : List N}, intsW k args = some es → ∀ {xs : List Value}, All2 (V.rel β) args xs → xs = es.map fun e => Value.int k e.v
  | [], es, h, xs, hx => by
    cases h
    cases xs with
    | nil => rfl
    | cons _ _ => exact hx.elim
  | a :: r, es, h, xs, hx => by
    unfold intsW at h
    split at h
    · rename_i he; cases he
    · rename_i k' e r' he
      cases he
      split at h
      · rename_i hk
        subst hk
        split at h
        · rename_i l hl
          cases h
          cases xs with
          | nil => exact hx.elim
          | cons x xs =>
            obtain ⟨h1, h2⟩ := hx
            rw [intsW_ok hl h2]
            have : x = .int k' e.v := h1
            rw [this]; rfl
        · cases h
      · cases h
    · cases h
def atN (es : List N) (i : Nat) : Int := match es[i]? with
  | some e => e.v
  | none => 0
def inRow : Nat → List (Nat × Operand) → Bool
  | _, [] => true
  | j, p :: r => Nat.beq p.1 j && inRow (j + 1) r
theorem inRow_ok {ρ : Operand → Value} : ∀ {j : Nat} {ps : List (Nat × Operand)}, inRow j ps = true → (ps.map fun p => (p.1, ρ p.2)) = ((ps.map fun p => ρ p.2).zipIdx j).map fun p => (p.2, p.1)
  | _, [], _ => rfl
  | j, p :: r, h => by
    simp only [inRow, Bool.and_eq_true] at h
    simp only [List.map_cons, List.zipIdx_cons]
    rw [inRow_ok h.2, Nat.eq_of_beq_eq_true h.1]
theorem makes_sliceN {t el : TypeId} {k : IntKind} {parts : Array (Nat × Operand)} {args : List V} {es : List N} {fresh : Nat} (h : sliceZero P t = some (el, k)) (hr : inRow 0 parts.toList = true) (he : intsW k args = some es) (hl : es.length = parts.size) (hn : es.length ≤ 64) :
    Makes P (.buildSlice t es.length parts) args (.vec fresh) fresh (.vec true el es.length [.ints k (atN es)]) := by
  intro β ρ o w ho hrel
  obtain ⟨dst, op, type, pos, after, guard⟩ := o; simp only at ho; subst ho
  obtain ⟨hu, _, i, hi, hz, hs1, hb⟩ := sliceZero_ok h
  have hops : (Op.buildSlice t es.length parts).operands.toList.map ρ = parts.toList.map fun p => ρ p.2 := by
    simp [Op.operands, List.map_map, Function.comp_def]
  rw [hops] at hrel
  have hxs := intsW_ok he hrel
  have hvc : ∀ v ∈ (parts.toList.map fun p => ρ p.2), v.cells = #[v] := fun v hv => by
    rw [hxs] at hv
    obtain ⟨e, _, rfl⟩ := List.mem_map.1 hv
    rfl
  have hlen : (parts.toList.map fun p => ρ p.2).length = es.length := by rw [hxs]; simp
  have hts : ∀ wd, (sizeOf el).run P wd = .ok 1 wd := fun wd => tySize_ok (by unfold tySize; rw [hi]; simp only [hs1]) wd
  have hzv : ∀ wd, (zeroValue el).run P wd = .ok (.int k 0) wd := fun wd => by
    unfold zeroValue
    simp only [Sem.run_bind, run_info hi, Result.andThen_ok, hz]
    rfl
  have hparts : (parts.map fun (i, y) => (i, ρ y)).toList = ((parts.toList.map fun p => ρ p.2).zipIdx 0).map fun p => (p.2, p.1) := by
    rw [← inRow_ok hr]; simp
  have key : ∀ ds : Array Value, ds.size = es.length → ∃ cs, Instr.fill (fun i => some (i * 1, 1)) ds (parts.map fun (i, y) => (i, ρ y)).toList = some cs ∧ cs.toList = parts.toList.map fun p => ρ p.2 := fun ds hds => by
    obtain ⟨cs, h1, h2⟩ := fillN (parts.toList.map fun p => ρ p.2) 0 ds hvc (by rw [hlen]; omega)
    refine ⟨cs, by rw [hparts]; exact h1, ?_⟩
    rw [h2, List.drop_eq_nil_of_le (by rw [hlen]; simp; omega)]; simp
  have run : ∃ cs : Array Value, cs.toList = (parts.toList.map fun p => ρ p.2) ∧ (execOp ρ ⟨dst, .buildSlice t es.length parts, type, pos, after, guard⟩).run P w = .ok (.value (.slice (some ⟨w.heap.size, 0, none⟩) es.length es.length)) (w.alloc (.cells cs el)) := by
    have h24 : ¬ es.length * 1 > 2 ^ 24 := by omega
    by_cases h0 : es.length * 1 = 0
    · obtain ⟨cs, h1, h2⟩ := key ((Array.range (es.length * 1)).map ((#[] : Array Value)[· % (#[] : Array Value).size]!)) (by simp)
      refine ⟨cs, h2, ?_⟩
      simp only [execOp, Instr.buildSlice, Sem.run_bind, run_under hu, Result.andThen_ok, hts, if_neg h24, if_pos h0, Sem.run_pure, h1, newRow, run_newObj]
      rfl
    · obtain ⟨cs, h1, h2⟩ := key ((Array.range (es.length * 1)).map ((#[Value.int k 0] : Array Value)[· % (#[Value.int k 0] : Array Value).size]!)) (by simp)
      refine ⟨cs, h2, ?_⟩
      have hc0 : (Value.int k 0).cells = #[Value.int k 0] := rfl
      simp only [execOp, Instr.buildSlice, Sem.run_bind, run_under hu, Result.andThen_ok, hts, if_neg h24, if_neg h0, hzv, Sem.run_pure, hc0, h1, newRow, run_newObj]
      rfl
  obtain ⟨cs, hcs, hrun⟩ := run
  refine ⟨.slice (some ⟨w.heap.size, 0, none⟩) es.length es.length, w.alloc (.cells cs el), .val (.slice (some ⟨w.heap.size, 0, none⟩) es.length es.length), hrun, rfl, rfl, rfl, by simp, fun k hk => Below.heap_alloc _ _ _ hk, fun b hb => (by cases hb; exact Nat.le_refl _), fun β' hle hfr => ⟨?_, hfr, _, _, _, rfl⟩⟩
  have hsz : cs.size = es.length := by rw [← Array.length_toList, hcs, hlen]
  refine ⟨by omega, .inr ⟨w.heap.size, 0, es.length, rfl, by simp, Nat.le_refl _, fun i hi j c hcj => ?_, fun _ => ⟨rfl, by omega, _, heap_alloc_new w _, by simp; omega⟩⟩⟩
  cases j with
  | succ j => simp at hcj
  | zero =>
    simp at hcj; subst hcj
    refine ⟨.int k (atN es i), ?_, rfl⟩
    have hh := heap_alloc_new w (.cells cs el)
    have hv : cs.toList[i]? = some (.int k (atN es i)) := by
      rw [hcs, hxs, List.getElem?_map, List.getElem?_eq_getElem hi]
      simp only [Option.map_some, atN, List.getElem?_eq_getElem hi]
    simp only [World.cell?, hh, Option.isSome_none, Bool.false_eq_true, if_false, List.length_cons, List.length_nil, Nat.zero_add, Nat.mul_one, Nat.add_zero]
    rw [← Array.getElem?_toList, hv]
theorem fillS (n : Nat) : ∀ (vs : List Value) (j : Nat) (ds : Array Value), (∀ v ∈ vs, v.cells.size = n) → (j + vs.length) * n ≤ ds.size →
    ∃ cs, Instr.fill (fun i => some (i * n, n)) ds ((vs.zipIdx j).map fun p => (p.2, p.1)) = some cs ∧ cs.size = ds.size ∧ (∀ i q v, vs[i]? = some v → q < n → cs.toList[(j + i) * n + q]? = v.cells.toList[q]?) ∧ ∀ i, i < j * n → cs.toList[i]? = ds.toList[i]?
  | [], j, ds, _, _ => ⟨ds, rfl, rfl, fun i q v h => by simp at h, fun _ _ => rfl⟩
  | v :: vs, j, ds, hv, h => by
    have hvc := hv v (by simp)
    have hjn : j * n + n ≤ ds.size := by
      have h2 : (j + 1) * n ≤ (j + (v :: vs).length) * n := Nat.mul_le_mul_right _ (by simp)
      rw [Nat.succ_mul] at h2; omega
    have hrun := fillRun v.cells.toList (j * n) 0 ds (by simp; omega)
    have hd : (v.cells.zipIdx.foldl (fun cs (p : Value × Nat) => cs.setIfInBounds (j * n + p.2) p.1) ds).toList = ds.toList.take (j * n) ++ v.cells.toList ++ ds.toList.drop (j * n + n) := by
      rw [← Array.foldl_toList, Array.toList_zipIdx]
      simpa [hvc] using hrun
    generalize hds : v.cells.zipIdx.foldl (fun cs (p : Value × Nat) => cs.setIfInBounds (j * n + p.2) p.1) ds = ds' at hd
    have hl1 : (ds.toList.take (j * n)).length = j * n := by simp; omega
    have hl2 : v.cells.toList.length = n := by simp [hvc]
    have hsz : ds'.size = ds.size := by
      have := congrArg List.length hd
      simp only [List.length_append, hl1, hl2, List.length_drop, Array.length_toList] at this
      omega
    obtain ⟨cs, h1, h2, h3, h4⟩ := fillS n vs (j + 1) ds' (fun x hx => hv x (by simp [hx])) (by rw [hsz]; simpa [Nat.add_assoc, Nat.add_comm 1] using h)
    refine ⟨cs, ?_, by omega, fun i q u hu hq => ?_, fun i hi => ?_⟩
    · simp only [List.zipIdx_cons, List.map_cons, Instr.fill]
      rw [if_neg (by simp [hvc]; omega)]
      have e : (v.cells.zipIdx.foldl (fun cs x => match x with | (c, q) => cs.setIfInBounds (j * n + q) c) ds) = ds' := by rw [← hds]
      rw [e]; exact h1
    · cases i with
      | zero =>
        simp at hu; subst hu
        have hlt : (j + 0) * n + q < (j + 1) * n := by rw [Nat.succ_mul, Nat.add_zero]; omega
        rw [h4 _ hlt, hd, Nat.add_zero, List.append_assoc, List.getElem?_append_right (by omega), hl1, List.getElem?_append_left (by omega)]
        congr 1; omega
      | succ i =>
        have := h3 i q u (by simpa using hu) hq
        rwa [show j + 1 + i = j + (i + 1) by omega] at this
    · have hlt : i < (j + 1) * n := by rw [Nat.succ_mul]; omega
      rw [h4 i hlt, hd, List.append_assoc, List.getElem?_append_left (by omega), List.getElem?_take, if_pos hi]
def cellsJ (m : Nat) : List W → Option (List L)
  | [] => some []
  | w :: r => match w.cells[m]?, cellsJ m r with
    | some l, some ls => some (l :: ls)
    | _, _ => none
theorem cellsJ_get {m : Nat} : ∀ {ws : List W} {ls : List L}, cellsJ m ws = some ls → ∀ (i : Nat) (w : W), ws[i]? = some w → ∃ l, w.cells[m]? = some l ∧ ls[i]? = some l
  | [], _, _, i, w, h => by simp at h
  | w0 :: r, ls, h, i, w, hi => by
    unfold cellsJ at h
    split at h
    · rename_i l ls' h1 h2
      cases h
      cases i with
      | zero => simp at hi; subst hi; exact ⟨l, h1, rfl⟩
      | succ i => simpa using cellsJ_get h2 i w (by simpa using hi)
    · cases h
def colJ (ls : List L) : Option Col := match ls with
  | .int k _ :: _ => (match intsOf k ls with
    | some es => some (.ints k (nthI es))
    | none => none)
  | _ => none
theorem colJ_ok {ls : List L} {c : Col} (h : colJ ls = some c) {i : Nat} {l : L} (hl : ls[i]? = some l) {β : Bm} {x : Value} (hr : l.rel β x) : c.rel i x := by
  unfold colJ at h
  split at h
  · split at h
    · rename_i es he
      cases h; exact intsOf_ok he hl hr
    · cases h
  · cases h
def colsN (ws : List W) : Nat → Option (List Col)
  | 0 => some []
  | m + 1 => match colsN ws m, cellsJ m ws with
    | some cs, some ls => (match colJ ls with
      | some c => some (cs ++ [c])
      | none => none)
    | _, _ => none
theorem colsN_get {ws : List W} : ∀ {m : Nat} {cs : List Col}, colsN ws m = some cs → cs.length = m ∧ ∀ (j : Nat) c, cs[j]? = some c → ∃ ls, cellsJ j ws = some ls ∧ colJ ls = some c
  | 0, cs, h => by cases h; exact ⟨rfl, fun j c hj => by simp at hj⟩
  | m + 1, cs, h => by
    unfold colsN at h
    split at h
    · rename_i cs' ls h1 h2
      split at h
      · rename_i c' hc
        cases h
        obtain ⟨k1, k2⟩ := colsN_get h1
        refine ⟨by simp [k1], fun j c hj => ?_⟩
        by_cases hjm : j < cs'.length
        · rw [List.getElem?_append_left hjm] at hj; exact k2 j c hj
        · rw [List.getElem?_append_right (by omega)] at hj
          have : j = m := by have := (List.getElem?_eq_some_iff.1 hj).1; simp at this; omega
          subst this
          rw [k1, Nat.sub_self] at hj
          simp at hj; subst hj
          exact ⟨ls, h2, hc⟩
      · cases h
    · cases h
theorem makes_sliceS {t el : TypeId} {parts : Array (Nat × Operand)} {args : List V} {ws : List W} {cols : List Col} {n fresh : Nat} (h1 : P.underlying t = some (.slice el)) (hn : tySize P el = some n) (hn0 : 0 < n) (hN : ws.length * n ≤ 64) (hN0 : 0 < ws.length)
    (hz : ∃ zw, zeroW P el = some zw ∧ zw.cells.length = n) (hr : inRow 0 parts.toList = true) (ha : allW args = some ws) (hl : ws.length = parts.size) (hf : ∀ wv ∈ ws, wv.firm = true ∧ wv.cells.length = n) (hc : colsN ws n = some cols) :
    Makes P (.buildSlice t ws.length parts) args (.vec fresh) fresh (.vec true el ws.length cols) := by
  intro β ρ o w ho hrel
  obtain ⟨dst, op, type, pos, after, guard⟩ := o; simp only at ho; subst ho
  have hops : (Op.buildSlice t ws.length parts).operands.toList.map ρ = parts.toList.map fun p => ρ p.2 := by
    simp [Op.operands, List.map_map, Function.comp_def]
  rw [hops] at hrel
  have hxs := allW_ok ha hrel
  have hlen : (parts.toList.map fun p => ρ p.2).length = ws.length := by simp [hl]
  have hcell : ∀ (i : Nat) (v : Value), (parts.toList.map fun p => ρ p.2)[i]? = some v → ∃ wv, ws[i]? = some wv ∧ v.cells.size = n ∧ All2 (L.rel β) wv.cells v.cells.toList := fun i v hv => by
    have hi : i < ws.length := by rw [← hlen]; exact (List.getElem?_eq_some_iff.1 hv).1
    have hw : ws[i]? = some (ws[i]'hi) := List.getElem?_eq_getElem hi
    obtain ⟨y, hy, hyr⟩ := hxs.get i _ hw
    rw [hv] at hy; cases hy
    obtain ⟨f1, f2⟩ := hf _ (List.getElem_mem hi)
    have hcs := W.firm_cells hyr f1
    exact ⟨_, hw, by have := hcs.length; simp at this; omega, hcs⟩
  obtain ⟨zw, hz1, hz2⟩ := hz
  obtain ⟨hzf, zv, hzv, hzr⟩ := zeroW_ok hz1 β
  have hzl := (W.firm_cells hzv hzf).length
  simp only [Array.length_toList] at hzl
  have hparts : (parts.map fun (i, y) => (i, ρ y)).toList = ((parts.toList.map fun p => ρ p.2).zipIdx 0).map fun p => (p.2, p.1) := by
    rw [← inRow_ok hr]; simp
  obtain ⟨cs, g1, g2, g3, _⟩ := fillS n (parts.toList.map fun p => ρ p.2) 0 ((Array.range (ws.length * n)).map (zv.cells[· % zv.cells.size]!)) (fun v hv => by
    obtain ⟨i, hi⟩ := List.getElem?_of_mem hv
    exact (hcell i v hi).choose_spec.2.1) (by simp [hl])
  rw [← hparts] at g1
  have hsz : cs.size = ws.length * n := by rw [g2]; simp
  refine ⟨.slice (some ⟨w.heap.size, 0, none⟩) ws.length ws.length, w.alloc (.cells cs el), .val (.slice (some ⟨w.heap.size, 0, none⟩) ws.length ws.length), ?_, rfl, rfl, rfl, by simp, fun k hk => Below.heap_alloc _ _ _ hk, fun b hb => (by cases hb; exact Nat.le_refl _), fun β' hle hfr => ⟨?_, hfr, _, _, _, rfl⟩⟩
  · have h24 : ¬ ws.length * n > 2 ^ 24 := by omega
    have h0' : ¬ ws.length * n = 0 := by have := Nat.mul_pos hN0 hn0; omega
    simp only [execOp, Instr.buildSlice, Sem.run_bind, run_under h1, Result.andThen_ok, tySize_ok hn, if_neg h24, if_neg h0', hzr, Sem.run_pure, g1, newRow, run_newObj]
    try rfl
  · obtain ⟨q1, q2⟩ := colsN_get hc
    have hwl : ws.length ≤ 64 := Nat.le_trans (Nat.le_mul_of_pos_right _ hn0) hN
    refine ⟨by omega, .inr ⟨w.heap.size, 0, ws.length, rfl, by simp, Nat.le_refl _, fun i hi j c hcj => ?_, fun _ => ⟨rfl, by omega, _, heap_alloc_new w _, by rw [q1]; exact hsz⟩⟩⟩
    obtain ⟨ls, a1, a2⟩ := q2 j c hcj
    have hjn : j < n := by rw [← q1]; exact (List.getElem?_eq_some_iff.1 hcj).1
    have hi2 : i < (parts.toList.map fun p => ρ p.2).length := by rw [hlen]; exact hi
    obtain ⟨wv, b1, b2, b3⟩ := hcell i _ (List.getElem?_eq_getElem hi2)
    obtain ⟨l, d1, d2⟩ := cellsJ_get a1 i wv b1
    obtain ⟨y, e1, e2⟩ := b3.get j l d1
    refine ⟨y, ?_, colJ_ok a2 d2 (L.rel_mono hle l y e2)⟩
    have hh := heap_alloc_new w (.cells cs el)
    have g := g3 i j _ (List.getElem?_eq_getElem hi2) hjn
    rw [Nat.zero_add, e1] at g
    rw [q1, Nat.zero_add]
    simp only [World.cell?, hh, Option.isSome_none, Bool.false_eq_true, if_false]
    simpa using g
end
end Go.Proofs.YtpdijogpbnaplaaDoorHz
namespace Go.Proofs.YtpdijogpbnaplaaDoorHz
open Go Go.RowKit
section
variable {P : Program}

def bnd (m : Nat) (lo hi : Option Operand) (vs : List V) : Option (Nat × Nat × Prop) := match lo, hi, vs with
  | some _, none, [.val (.one (.int _ e))] => some (e.v.toNat, m, 0 ≤ e.v ∧ e.v ≤ m)
  | none, some _, [.val (.one (.int _ f))] => some (0, f.v.toNat, 0 ≤ f.v ∧ f.v ≤ m)
  | some _, some _, [.val (.one (.int _ e)), .val (.one (.int _ f))] => some (e.v.toNat, f.v.toNat, 0 ≤ e.v ∧ e.v ≤ f.v ∧ f.v ≤ m)
  | none, none, [] => some (0, m, True)
  | _, _, _ => none
theorem bnd_ok {m : Nat} {lo hi : Option Operand} {vs : List V} {l h : Nat} {nd : Prop} (hb : bnd m lo hi vs = some (l, h, nd)) (hn : nd) : (l ≤ h ∧ h ≤ m) ∧
    ∀ (β : Bm) (ρ : Operand → Value), All2 (V.rel β) vs ((lo.toList ++ hi.toList).map ρ) → boundIs (lo.map ρ) 0 l ∧ boundIs (hi.map ρ) m h := by
  have num : ∀ {β : Bm} {ρ : Operand → Value} {y : Operand} {k : IntKind} {e : N} {d : Nat}, (L.int k e).rel β (ρ y) → 0 ≤ e.v → boundIs (some (ρ y)) d e.v.toNat := by
    intro β ρ y k e d hr h0
    have hr : ρ y = .int k e.v := hr
    exact .inr ⟨k, by rw [hr]; congr 2; omega⟩
  unfold bnd at hb
  split at hb
  · cases hb
    obtain ⟨h1, h2⟩ := hn
    exact ⟨⟨by omega, Nat.le_refl _⟩, fun β ρ hr => ⟨num (β := β) hr.1 h1, .inl ⟨rfl, rfl⟩⟩⟩
  · cases hb
    obtain ⟨h1, h2⟩ := hn
    exact ⟨⟨Nat.zero_le _, by omega⟩, fun β ρ hr => ⟨.inl ⟨rfl, rfl⟩, num (β := β) hr.1 h1⟩⟩
  · cases hb
    obtain ⟨h1, h2, h3⟩ := hn
    exact ⟨⟨by omega, by omega⟩, fun β ρ hr => ⟨num (β := β) hr.1 h1, num (β := β) hr.2.1 (by omega)⟩⟩
  · cases hb
    exact ⟨⟨Nat.zero_le _, Nat.le_refl _⟩, fun β ρ hr => ⟨.inl ⟨rfl, rfl⟩, .inl ⟨rfl, rfl⟩⟩⟩
  · cases hb
theorem run_bounds {lo hi : Option Value} {l h m cap : Nat} {isS : Bool} (hlo : boundIs lo 0 l) (hhi : boundIs hi m h) (hlh : l ≤ h) (hhm : h ≤ m) (hc : m ≤ cap) (w : World) : (Instr.sliceBounds isS m cap lo hi none).run P w = .ok (l, h, cap) w := by
  have hl : ∀ c, (match lo with | some v => Instr.sliceBound v h c | none => pure 0 : Sem Nat).run P w = .ok l w := by
    intro c
    rcases hlo with ⟨rfl, rfl⟩ | ⟨k, rfl⟩
    · rfl
    · have := run_sliceBound (P := P) (w := w) k (l : Int) h c (by omega) (by omega)
      simpa using this
  have hh : ∀ c, (match hi with | some v => Instr.sliceBound v cap c | none => pure m : Sem Nat).run P w = .ok h w := by
    intro c
    rcases hhi with ⟨rfl, rfl⟩ | ⟨k, rfl⟩
    · rfl
    · have := run_sliceBound (P := P) (w := w) k (h : Int) cap c (by omega) (by omega)
      simpa using this
  unfold Instr.sliceBounds
  cases hi with
  | none =>
    have h2 : m = h := by rcases hhi with ⟨_, rfl⟩ | ⟨k, hk⟩ <;> first | rfl | cases hk
    subst h2
    cases lo with
    | none =>
      have h3 : l = 0 := by rcases hlo with ⟨_, rfl⟩ | ⟨k, hk⟩ <;> first | rfl | cases hk
      subst h3; rfl
    | some v => simp only [Sem.run_bind, Sem.run_pure, Result.andThen_ok, hl]
  | some u =>
    cases lo with
    | none =>
      have h3 : l = 0 := by rcases hlo with ⟨_, rfl⟩ | ⟨k, hk⟩ <;> first | rfl | cases hk
      subst h3
      simp only [Sem.run_bind, Sem.run_pure, Result.andThen_ok, hh]
    | some v => simp only [Sem.run_bind, Sem.run_pure, Result.andThen_ok, hh, hl]
theorem gives_sliceFptr {t el : TypeId} {x : Operand} {lo hi : Option Operand} {hid b m : Nat} {vs : List V} {l h : Nat} {nd : Prop} (h1 : P.underlying t = some (.array m el)) (hn : tySize P el = some 1) (hb : bnd m lo hi vs = some (l, h, nd)) (hnd : nd) :
    Gives P (.slice t x lo hi none) (.val (.one (.fptr hid b 0)) :: vs) (.val (.one (.fsub hid b l (h - l)))) := by
  intro β ρ o ho hr
  obtain ⟨dst, op, type, pos, after, guard⟩ := o; simp only at ho; subst ho
  have e0 : (Op.slice t x lo hi none).operands.toList.map ρ = ρ x :: (lo.toList ++ hi.toList).map ρ := by simp [Op.operands]
  rw [e0] at hr
  obtain ⟨⟨q1, q2⟩, q3⟩ := bnd_ok hb hnd
  obtain ⟨hx, hr⟩ := hr
  have hx : ρ x = .pointer (some ⟨b, 0, none⟩) := hx
  obtain ⟨b1, b2⟩ := q3 β ρ hr
  refine ⟨.slice (some (if m = l then ⟨b, 0, none⟩ else ⟨b, l, none⟩)) (h - l) (m - l), ?_, fun w => ?_⟩
  · by_cases hm : m = l
    · rw [if_pos hm]; exact .inr ⟨0, _, rfl, by omega, fun h => by omega⟩
    · rw [if_neg hm]; exact .inr ⟨l, _, rfl, by omega, fun _ => rfl⟩
  · simp only [execOp, Option.map_none, Instr.sliceAt, hx, Sem.run_bind, run_under h1, Result.andThen_ok, Instr.sureAddr, Sem.run_pure, run_bounds (P := P) b1 b2 q1 q2 (Nat.le_refl m) w, tySize_ok hn, addr_add, Nat.mul_one, Nat.zero_add]
theorem gives_sliceFsub {t el : TypeId} {x : Operand} {lo hi : Option Operand} {hid b s0 m : Nat} {vs : List V} {l h : Nat} {nd : Prop} (h1 : P.underlying t = some (.slice el)) (hn : tySize P el = some 1) (hb : bnd m lo hi vs = some (l, h, nd)) (hnd : nd) :
    Gives P (.slice t x lo hi none) (.val (.one (.fsub hid b s0 m)) :: vs) (.val (.one (.fsub hid b (s0 + l) (h - l)))) := by
  intro β ρ o ho hr
  obtain ⟨dst, op, type, pos, after, guard⟩ := o; simp only at ho; subst ho
  have e0 : (Op.slice t x lo hi none).operands.toList.map ρ = ρ x :: (lo.toList ++ hi.toList).map ρ := by simp [Op.operands]
  rw [e0] at hr
  obtain ⟨⟨q1, q2⟩, q3⟩ := bnd_ok hb hnd
  obtain ⟨hx, hr⟩ := hr
  obtain ⟨b1, b2⟩ := q3 β ρ hr
  rcases hx with ⟨a0, c, hx, rfl⟩ | ⟨o', c, hx, hmc, ho'⟩
  · refine ⟨.slice (if c = l then a0 else a0.map (·.add (l * 1))) (h - l) (c - l), .inl ⟨_, c - l, by rw [show h - l = 0 by omega], by omega⟩, fun w => ?_⟩
    simp only [execOp, Option.map_none, Instr.sliceAt, Instr.slice, hx, Sem.run_bind, run_under h1, Result.andThen_ok, Sem.run_pure, run_bounds (P := P) b1 b2 q1 q2 (Nat.zero_le c) w, tySize_ok hn]
  refine ⟨.slice (if c = l then some ⟨b, o', none⟩ else some ⟨b, o' + l, none⟩) (h - l) (c - l), ?_, fun w => ?_⟩
  · by_cases hm : c = l
    · rw [if_pos hm]; exact .inr ⟨o', _, rfl, by omega, fun h => by omega⟩
    · rw [if_neg hm]; exact .inr ⟨o' + l, _, rfl, by omega, fun h => by rw [ho' (by omega)]⟩
  · simp only [execOp, Option.map_none, Instr.sliceAt, Instr.slice, hx, Sem.run_bind, run_under h1, Result.andThen_ok, Sem.run_pure, run_bounds (P := P) b1 b2 q1 q2 hmc w, tySize_ok hn, addr_add, Nat.mul_one, Option.map_some]
theorem gives_sliceSub {t el : TypeId} {x : Operand} {lo hi : Option Operand} {id n s0 m : Nat} {vs : List V} {l h : Nat} {nd : Prop} (h1 : P.underlying t = some (.slice el)) (hn : tySize P el = some n) (hb : bnd m lo hi vs = some (l, h, nd)) (hnd : nd) :
    Gives P (.slice t x lo hi none) (.val (.one (.sub id n s0 m)) :: vs) (.val (.one (.sub id n (s0 + l) (h - l)))) := by
  intro β ρ o ho hr
  obtain ⟨dst, op, type, pos, after, guard⟩ := o; simp only at ho; subst ho
  have e0 : (Op.slice t x lo hi none).operands.toList.map ρ = ρ x :: (lo.toList ++ hi.toList).map ρ := by simp [Op.operands]
  rw [e0] at hr
  obtain ⟨⟨q1, q2⟩, q3⟩ := bnd_ok hb hnd
  obtain ⟨⟨x0, hβ, hx⟩, hr⟩ := hr
  obtain ⟨b1, b2⟩ := q3 β ρ hr
  rcases hx with ⟨c0, c, h2, hx, rfl, rfl⟩ | ⟨a, o, n', c, o', c', h2, hx, r1, r2, r3⟩
  · refine ⟨.slice none (h - l) (c - l), ⟨x0, hβ, .inl ⟨c0, c - l, h2, ?_, by omega, by omega⟩⟩, fun w => ?_⟩
    · have : h - l = 0 := by omega
      rw [this]
    · simp only [execOp, Option.map_none, Instr.sliceAt, Instr.slice, hx, Sem.run_bind, run_under h1, Result.andThen_ok, Sem.run_pure, run_bounds (P := P) b1 b2 q1 q2 (Nat.zero_le c) w, tySize_ok hn, ite_self]
  · refine ⟨.slice (if c' = l then some ⟨a, o', none⟩ else some ⟨a, o' + l * n, none⟩) (h - l) (c' - l), ⟨x0, hβ, .inr ⟨a, o, n', c, if c' = l then o' else o' + l * n, c' - l, h2, ?_, by omega, by omega, fun h => ?_⟩⟩, fun w => ?_⟩
    · by_cases hm : c' = l
      · rw [if_pos hm, if_pos hm]
      · rw [if_neg hm, if_neg hm]
    · rw [if_neg (by omega), r3 (by omega), Nat.add_mul]; omega
    · simp only [execOp, Option.map_none, Instr.sliceAt, Instr.slice, hx, Sem.run_bind, run_under h1, Result.andThen_ok, Sem.run_pure, run_bounds (P := P) b1 b2 q1 q2 r2 w, tySize_ok hn, addr_add, Option.map_some]
theorem gives_lenFsub {t el : TypeId} {x : Operand} {ats : Array TypeId} {hid b lo n : Nat} (h0 : ats[0]? = some t) (h1 : P.underlying t = some (.slice el)) :
    Gives P (.call { callee := .builtin .len, args := #[x], argTypes := ats }) [.val (.one (.fsub hid b lo n))] (.val (.one (.int .i64 (.tm n)))) := by
  intro β ρ o ho hr
  obtain ⟨dst, op, type, pos, after, guard⟩ := o; simp only at ho; subst ho
  obtain ⟨hx, _⟩ := hr
  obtain ⟨a, c, hx⟩ := fsubIs.len hx
  have hx : ρ x = _ := hx
  refine ⟨.int .i64 n, rfl, fun w => ?_⟩
  simp [execOp, resolve, invoke, builtin, Builtin.len_, h0, hx, run_under h1, goInt]
theorem gives_lenSub {t el : TypeId} {x : Operand} {ats : Array TypeId} {id st lo n : Nat} (h0 : ats[0]? = some t) (h1 : P.underlying t = some (.slice el)) :
    Gives P (.call { callee := .builtin .len, args := #[x], argTypes := ats }) [.val (.one (.sub id st lo n))] (.val (.one (.int .i64 (.tm n)))) := by
  intro β ρ o ho hr
  obtain ⟨dst, op, type, pos, after, guard⟩ := o; simp only at ho; subst ho
  obtain ⟨⟨x0, _, h⟩, _⟩ := hr
  refine ⟨.int .i64 n, rfl, fun w => ?_⟩
  rcases h with ⟨c0, c, _, hx, rfl, rfl⟩ | ⟨a, o, n', c, o', c', _, hx, _⟩ <;> have hx : ρ x = _ := hx
  · simp [execOp, resolve, invoke, builtin, Builtin.len_, h0, hx, run_under h1, goInt]
  · simp [execOp, resolve, invoke, builtin, Builtin.len_, h0, hx, run_under h1, goInt]
theorem reads_indexSub {t el : TypeId} {x i : Operand} {k : IntKind} {e : N} {n id lo len : Nat} (h1 : P.underlying t = some (.slice el)) (hn : tySize P el = some n) (h0 : 0 ≤ e.v) (hlt : e.v < len) :
    Gives P (.indexAddr t x i) [.val (.one (.sub id n lo len)), .val (.one (.int k e))] (.val (.one (.lel id n (lo + e.v.toNat) 0))) := by
  intro β ρ o ho hr
  obtain ⟨dst, op, type, pos, after, guard⟩ := o; simp only at ho; subst ho
  obtain ⟨⟨x0, hβ, hx⟩, hi, _⟩ := hr
  have hi' : ρ i = .int k e.v := hi
  rcases hx with ⟨c0, c, _, _, _, rfl⟩ | ⟨a, o, n', c, o', c', rfl, hx, _, _, r3⟩
  · exfalso; simp at hlt; omega
  · refine ⟨.pointer (some ⟨a, o' + e.v.toNat * n, none⟩), ⟨a, o, n', c, hβ, ?_⟩, fun w => ?_⟩
    · rw [r3 (by omega), Nat.add_mul, Nat.add_zero, Nat.add_assoc]
    · simp only [execOp, Instr.indexAt, hx, hi', asIntOf, Sem.run_bind, Sem.run_pure, run_under h1, Result.andThen_ok, if_pos (And.intro h0 hlt), tySize_ok hn, addr_add]
theorem row_pre {w : World} {b off n m : Nat} {cols : List Col} (h : rowOk w b off n cols) (hm : m ≤ n) : rowOk w b off m cols := fun i hi => h i (by omega)
theorem run_copy_stored {w : World} {dT sT ty el : TypeId} {b o dLen dCap : Nat} {a : Addr} {sLen sCap : Nat} {cs : List Value} (hu : P.underlying dT = some (.slice el)) (hs : tySize P el = some 1) (hn : cs.length = Nat.min sLen dLen)
    (hsrc : ∀ j v, cs[j]? = some v → w.cell? (a.add j) = some v) (h1 : ∀ v ∈ cs, v.oneCell' = true) (hc : ∀ j, j < cs.length → ∃ x, w.cell? ⟨b, o + j, none⟩ = some x) (hf : noFreeze w b) :
    ∃ w', (Builtin.copy_ #[dT, sT] ty #[.slice (some ⟨b, o, none⟩) dLen dCap, .slice (some a) sLen sCap]).run P w = .ok (goInt cs.length) w' ∧ Stored w w' b o cs := by
  obtain ⟨w', r1, r2⟩ := storeRun (P := P) (b := b) cs o 0 w h1 (fun j hj => by simpa using hc j hj) hf
  have hl := run_loadCells_list (P := P) w a cs hsrc
  refine ⟨w', ?_, by simpa using r2⟩
  simp [Builtin.copy_, run_underlying hu, Builtin.lenOf, Builtin.firstCells, tySize_ok hs, ← hn, hl, r1]
theorem min_ne {m n : Nat} (h : ¬ Nat.min m n = 0) : 0 < m ∧ 0 < n := by
  have h1 : Nat.min m n ≤ m := Nat.min_le_left _ _
  have h2 : Nat.min m n ≤ n := Nat.min_le_right _ _
  omega
theorem eff_copy {X : Cx} {dT sT el : TypeId} {x y : Operand} {s : S} {hid h0 b lo n id2 m : Nat} {l2 : L} {nd : Option Prop} {e : TypeId} {k : IntKind} {len : Nat → Nat} {dom : Nat → Bool} {g : Nat → Nat → Int} {g2 : Nat → Int} (hu : P.underlying dT = some (.slice el)) (hs1 : tySize P el = some 1)
    (hs : s.blk hid = some (.fam true e k len dom g)) (hb : dom b = true) (hlo : lo + n ≤ len b) (h2 : srcOf s l2 = some (id2, m, [.ints k g2], nd)) (hnd : holdsP nd) :
    EffOk P X (.call { callee := .builtin .copy, args := #[x, y], argTypes := #[dT, sT] }) s [.val (.one (.fsub h0 b lo n)), .val (.one l2)]
      ⟨.val (.one (.int .i64 (.tm (Nat.min m n : Nat)))), [id2], [(hid, some (.fam true e k len dom (cpB g b lo (Nat.min m n) g2)))]⟩ := by
  intro o ho hd D s2 a w β hc hb0 hB hargs hrd hwr K Q hK
  have hs2 : s2.blk hid = some (.fam true e k len dom g) := by rw [hwr (hid, some (.fam true e k len dom (cpB g b lo (Nat.min m n) g2))) (by simp), hs]
  obtain ⟨p, k1, k2, k3⟩ := hB.mem hid _ hs2
  obtain ⟨hx, hy, _⟩ := hargs
  have hx : fsubIs b lo n (a.eval x) := hx
  have hy : l2.rel β (a.eval y) := hy
  have hsrc := srcOf_ok hB h2 hnd (hrd id2 (by simp)) hy
  obtain ⟨hlt, hcell, hown⟩ := k2 b hb
  obtain ⟨cs0, hb1, hb2⟩ := hown rfl
  have hfz : noFreeze w b := fun j => by simp [World.frozen?, hb1]
  -- the run
  have run : ∃ w' cs, (Builtin.copy_ #[dT, sT] o.type #[a.eval x, a.eval y]).run P w = .ok (goInt (Nat.min m n : Nat)) w' ∧ Stored w w' b lo cs ∧ cs.length = Nat.min m n ∧ ∀ j, j < Nat.min m n → cs[j]? = some (.int k (g2 j)) := by
    by_cases hz : Nat.min m n = 0
    · refine ⟨w, [], ?_, ⟨rfl, rfl, rfl, rfl, rfl, fun _ _ => rfl, fun cs ty fr h => ⟨cs, h, rfl⟩, fun _ => rfl, fun j v h => by simp at h, fun _ _ => rfl⟩, hz.symm, fun j hj => by omega⟩
      obtain ⟨i, hi, hi1⟩ : ∃ i, P.info? el = some i ∧ i.size = 1 := by
        unfold tySize at hs1
        cases hi : P.info? el with
        | none => rw [hi] at hs1; cases hs1
        | some i => rw [hi] at hs1; exact ⟨i, rfl, by simpa using hs1⟩
      obtain ⟨q0, q1⟩ := hsrc
      have hinf : (P.info? el).map (·.size) = some 1 := by rw [hi]; simp [hi1]
      obtain ⟨ax, c, hx⟩ := fsubIs.len hx
      rw [hx, hz]
      rcases q1 with ⟨a2, c2, hy2, hm0⟩ | ⟨b2, off, cap, hy2, _⟩
      · rw [hy2]
        exact run_copy_none w dT sT o.type el ax a2 n c 0 c2 hu hinf (by simp)
      · rw [hy2]
        exact run_copy_none w dT sT o.type el ax (some ⟨b2, off, none⟩) n c m cap hu hinf hz
    · obtain ⟨q0, q1⟩ := hsrc
      have hmn := min_ne hz
      rcases hx with ⟨_, _, _, hn0⟩ | ⟨o', c, hx2, hnc, hlo'⟩
      · exact absurd hmn.2 (by rw [hn0]; exact Nat.lt_irrefl 0)
      rcases q1 with ⟨_, _, _, hm0⟩ | ⟨b2, off, cap, hy2, s1, s2', s3⟩
      · exact absurd hmn.1 (by rw [hm0]; exact Nat.lt_irrefl 0)
      · obtain ⟨cs, t1, t2, t3, t4⟩ := row_list (row_pre s3 (Nat.min_le_left m n)) rfl (by simp)
        simp only [List.length_cons, List.length_nil, Nat.zero_add, Nat.mul_one, Nat.add_zero] at t1 t4
        have hoo : o' = lo := hlo' hmn.2
        subst hoo
        have hle : Nat.min m n ≤ n := Nat.min_le_right _ _
        obtain ⟨w', r1, r2⟩ := run_copy_stored (P := P) (w := w) (dT := dT) (sT := sT) (ty := o.type) (b := b) (o := o') (dLen := n) (dCap := c) (a := ⟨b2, off, none⟩) (sLen := m) (sCap := cap) hu hs1 t1 (fun j v hv => by rw [addr_add]; exact t2 j v hv) t3
          (fun j hj => ⟨_, hcell (o' + j) (by omega)⟩) hfz
        refine ⟨w', cs, ?_, r2, t1, fun j hj => ?_⟩
        · rw [hx2, hy2, r1, t1]
        · obtain ⟨y, hy1, hy2⟩ := t4 j hj 0 _ rfl
          have hy2 : y = .int k (g2 j) := hy2
          subst hy2
          simpa using hy1
  obtain ⟨w', cs, r1, r2, r3, r4⟩ := run
  obtain ⟨dst, op, type, pos, after, guard⟩ := o
  simp only at ho; subst ho
  unfold Oper.wp
  have e1 : (execOp a.eval ⟨dst, .call { callee := .builtin .copy, args := #[x, y], argTypes := #[dT, sT] }, type, pos, after, guard⟩).run P w = .ok (.value (goInt (Nat.min m n : Nat))) w' := by
    simp only [execOp, resolve, invoke, builtin, Sem.run_bind, Sem.run_pure, Result.andThen_ok]
    have : #[x, y].map a.eval = #[a.eval x, a.eval y] := by simp
    rw [this, r1]
    rfl
  rw [e1]
  have hshape := r2.shape cs0 e (0, 0) hb1
  have hok' : (Ob.fam true e k len dom (cpB g b lo (Nat.min m n) g2)).ok β w' p := by
    intro c' hc'
    by_cases hcb : c' = b
    · subst hcb
      obtain ⟨cs', q1, q2⟩ := hshape
      refine ⟨by rw [r2.size]; exact hlt, fun j hj => ?_, fun _ => ⟨cs', q1, by omega⟩⟩
      by_cases hin : lo ≤ j ∧ j < lo + Nat.min m n
      · have := r2.hit (j - lo) _ (r4 (j - lo) (by omega))
        rw [show lo + (j - lo) = j by omega] at this
        rw [this]; simp only [cpB, if_true, if_pos hin]
      · rw [r2.miss j (by omega), hcell j hj]; simp only [cpB, if_true, if_neg hin]
    · obtain ⟨g1, g2', g3⟩ := k2 c' hc'
      refine ⟨by rw [r2.size]; exact g1, fun j hj => ?_, fun ho => by rw [r2.other c' hcb]; exact g3 ho⟩
      rw [cell?_same (r2.other c' hcb), g2' j hj]; simp only [cpB, if_neg hcb]
  have hsize : w.heap.size ≤ w'.heap.size := by rw [r2.size]; exact Nat.le_refl _
  have hBw := hB.write (w' := w') hs2 rfl rfl k1 hsize (fun j _ hj => r2.other j (fun e => hj (by rw [e]; exact hb))) (Nat.le_trans hc.base hc.size) hok' (fun b hb => .inl hb)
  refine hK _ _ ⟨hc.later r2.os r2.tape r2.output hsize (fun j hj hF => r2.other j fun hf => ?_), β, hb0, ?_⟩
  · rcases k3 rfl b hb with h1 | h1
    · omega
    · rw [hf] at hF; exact hF h1
  · exact hBw.put hd (v := .val (.one (.int .i64 (.tm (Nat.min m n : Nat))))) rfl
end
end Go.Proofs.YtpdijogpbnaplaaDoorHz
namespace Go.Proofs.YtpdijogpbnaplaaDoorHz
open Go Go.RowKit
section
variable {P : Program}

theorem zeroCells_get (k : IntKind) (n j : Nat) (h : j < n) : (Builtin.zeroCells (Value.int k 0).cells n)[j]? = some (.int k 0) := by
  simp [Builtin.zeroCells, Value.cells, h, Nat.mod_one]
theorem run_append_zeros {w : World} (t ti ty e : TypeId) {k ki kt : IntKind} (i : TypeInfo) (ht : P.underlying t = some (.slice e)) (hti : P.underlying ti = some (.int kt)) (hi : P.info? e = some i) (hz : i.zero = some (.int k 0)) (hs1 : i.size = 1)
    (v : Value) (n : Nat) (xs : List Value) (hown : w.ownsRow 0 e 1 v n xs) (m : Nat) (h63 : n + m ≤ 35184372088832) (hby : i.bytes ≤ 8) (hbytes : ((n + m) + (n + m) / 4 + 192) * i.bytes ≤ 281474976710656) :
    ∃ v' w', (Builtin.append_ #[t, ti] ty #[v, .int ki m]).run P w = .ok v' w' ∧ w'.ownsRow 0 e 1 v' (n + m) (xs ++ (Builtin.zeroCells (Value.int k 0).cells m).toList) ∧ w.grownBy w' v.ownBlock ∧ ∀ b, v'.ownBlock = some b → v.ownBlock = some b ∨ w.heap.size ≤ b := by
  have hzl : (Builtin.zeroCells (Value.int k 0).cells m).toList.length = m := by simp [Builtin.zeroCells, Value.cells]
  have hone : ∀ u ∈ (Builtin.zeroCells (Value.int k 0).cells m).toList, u.oneCell' = true := fun u hu => by
    obtain ⟨j, hj⟩ := List.getElem?_of_mem hu
    have hjm : j < m := by have := (List.getElem?_eq_some_iff.1 hj).1; omega
    rw [Array.getElem?_toList, zeroCells_get k m j hjm] at hj
    cases hj; rfl
  have wl : IntKind.i64.wrap (m : Int) = m := by rw [IntKind.wrap_i64]; omega
  have n1 : ¬ ((m : Int) < 0) := by omega
  have hmb : m * i.bytes ≤ 281474976710656 := Nat.le_trans (Nat.mul_le_mul_right _ (by omega)) hbytes
  have n2 : ¬ (281474976710656 < (m : Int) * (i.bytes : Int)) := by
    have : ((m * i.bytes : Nat) : Int) ≤ 281474976710656 := by omega
    rw [Int.natCast_mul] at this; omega
  have hlen : (xs ++ (Builtin.zeroCells (Value.int k 0).cells m).toList).length = (n + m) * 1 := by rw [List.length_append, hown.1, hzl]; omega
  have grown : ∀ (old : Nat), old < n + m → ∀ (row : Option Nat),
      (w.drew.alloc (.cells (xs.toArray ++ Builtin.zeroCells (Value.int k 0).cells m ++ Builtin.zeroCells (Value.int k 0).cells (grownCap w (n + m) old e - (n + m))) e)).ownsRow 0 e 1
        (.slice (some ⟨w.heap.size, 0, none⟩) (n + m) (grownCap w (n + m) old e)) (n + m) (xs ++ (Builtin.zeroCells (Value.int k 0).cells m).toList) ∧
      w.grownBy (w.drew.alloc (.cells (xs.toArray ++ Builtin.zeroCells (Value.int k 0).cells m ++ Builtin.zeroCells (Value.int k 0).cells (grownCap w (n + m) old e - (n + m))) e)) row := by
    intro old ho row
    have hge := grownCap_ge w (n + m) old e
    have hcm : grownCap w (n + m) old e ≤ maxLen := grownCap_le_maxLen w (n + m) old e (by simp only [maxLen]; omega)
    refine ⟨⟨hlen, .inr ⟨w.heap.size, _, _, rfl, Nat.zero_le _, heap_alloc_new w.drew _, hge, hcm, ?_, ?_⟩⟩, ⟨rfl, rfl, rfl, by simp, fun j hj _ => Below.heap_alloc w.drew _ j hj⟩⟩
    · have := hown.1
      simp only [Array.size_append, List.size_toArray, Builtin.zeroCells, Value.cells, Array.size_map, Array.size_range, this, Array.size_singleton]
      simp
      omega
    · simp only [Array.toList_append, List.append_assoc]
      rw [← List.append_assoc, ← hlen]
      exact List.take_left
  rcases hown.2 with ⟨rfl, rfl⟩ | ⟨g, cap, cur, rfl, hbg, hg, hnc, hcm, hcs, htake⟩
  · have hx : xs = [] := List.eq_nil_of_length_eq_zero (by simpa using hown.1)
    subst hx
    by_cases hm : m = 0
    · subst hm
      have wl0 : IntKind.i64.wrap 0 = 0 := by simpa using wl
      refine ⟨.slice none 0 0, w, ?_, by simpa [Builtin.zeroCells] using World.ownsRow_nil w 0 e 1, ⟨rfl, rfl, rfl, Nat.le_refl _, fun _ _ _ => rfl⟩, fun b hb => by cases hb⟩
      simp [Builtin.append_, run_underlying ht, run_underlying hti, sizeOf, typeInfo, hi, asInt, asIntOf, wl0]
    · have hfit : Builtin.nextslicecap (0 + m) 0 * i.bytes ≤ 281474976710656 := growslice_fits_wide (by omega) hbytes
      obtain ⟨g1, g2⟩ := grown 0 (by omega) none
      refine ⟨_, _, ?_, g1, g2, fun b hb => .inr ?_⟩
      · simp only [Nat.zero_add] at hfit
        have hfit' : ¬ (281474976710656 < Builtin.nextslicecap m 0 * i.bytes) := by omega
        have hm0 : ¬ (m ≤ 0) := by omega
        have h63' : ¬ (9223372036854775807 < (m : Int)) := by omega
        simp [Builtin.append_, run_underlying ht, run_underlying hti, sizeOf, typeInfo, hi, asInt, asIntOf, wl, n1, n2, hm, h63', hfit', Question.forced, Builtin.firstCells, newRow, grownCap, zeroValue, hz, hs1]
      · cases hb; exact Nat.le_refl _
  · have hcur : n + m ≤ cap → n + (Builtin.zeroCells (Value.int k 0).cells m).toList.length ≤ cur.size := fun h => by rw [hzl, hcs]; omega
    by_cases hroom : n + m ≤ cap
    · have hst := run_storeCells_at P g n e (Builtin.zeroCells (Value.int k 0).cells m).toList 0 cur w hg (by simpa using hcur hroom) hone
      simp only [Nat.add_zero] at hst
      refine ⟨.slice (some ⟨g, 0, none⟩) (n + m) cap, w.setRow g (cur.toList.take n ++ (Builtin.zeroCells (Value.int k 0).cells m).toList ++ cur.toList.drop (n + (Builtin.zeroCells (Value.int k 0).cells m).toList.length)).toArray, ?_, ⟨hlen, .inr ⟨g, cap, _, rfl, hbg, setRow_heap w g cur _ e _ hg, hroom, hcm, ?_, ?_⟩⟩, ⟨rfl, rfl, rfl, by simp, fun k _ hk => setRow_other w g k _ (fun e => hk (by simp [Value.ownBlock, e]))⟩, fun b hb => .inl hb⟩
      · have e1 : ((⟨g, 0, none⟩ : Addr).add (n * i.size)) = ⟨g, n, none⟩ := by rw [addr_add, hs1]; simp
        by_cases hm : m = 0
        · subst hm
          have wl0 : IntKind.i64.wrap 0 = 0 := by simpa using wl
          simp [Builtin.zeroCells] at hst
          simp [Builtin.append_, run_underlying ht, run_underlying hti, sizeOf, typeInfo, hi, asInt, asIntOf, wl0, hnc, storeCells, Builtin.zeroCells]
          simpa [storeCells] using hst
        · simp [Builtin.append_, run_underlying ht, run_underlying hti, sizeOf, typeInfo, hi, asInt, asIntOf, wl, n1, n2, hroom, hs1, hm, zeroValue, hz, addr_add, hst]
      · simp only [List.size_toArray, List.length_append, List.length_take, List.length_drop, Array.length_toList, hzl]
        have := hcur hroom
        rw [hzl] at this
        omega
      · have ht2 : List.take n cur.toList = xs := by simpa using htake
        rw [ht2, ← hlen]
        exact List.take_left
    · have holds : ∀ j u, xs[j]? = some u → w.drew.cell? ((⟨g, 0, none⟩ : Addr).add j) = some u := fun j u hu => by
        have := hown.cells (g := g) rfl j u hu
        simpa using this
      have hl := hown.1
      have hfo := run_firstCells_some (P := P) w.drew i.size n ⟨g, 0, none⟩ n cap xs (by rw [hs1]; exact hl) holds
      have hfit : Builtin.nextslicecap (n + m) cap * i.bytes ≤ 281474976710656 := growslice_fits_wide (by omega) hbytes
      obtain ⟨g1, g2⟩ := grown cap (by omega) (some g)
      refine ⟨_, _, ?_, g1, g2, fun b hb => .inr ?_⟩
      · have hfit' : ¬ (281474976710656 < Builtin.nextslicecap (n + m) cap * i.bytes) := by omega
        have h63' : ¬ (9223372036854775807 < (n : Int) + (m : Int)) := by omega
        have hm : ¬ m = 0 := by omega
        simp [Builtin.append_, run_underlying ht, run_underlying hti, sizeOf, typeInfo, hi, asInt, asIntOf, wl, n1, n2, hroom, hm, h63', hfit', Question.forced, newRow, grownCap, zeroValue, hz, hs1]
        rw [hs1] at hfo
        simp [hfo]
      · cases hb; exact Nat.le_refl _
theorem eff_appendMake {X : Cx} {t ti e : TypeId} {k kt ki : IntKind} {sx xx : Operand} {s : S} {id fresh n bytes : Nat} {ev : N} {g : Nat → Int} {i : TypeInfo} (hsz : sliceZero P t = some (e, k)) (hti : P.underlying ti = some (.int kt)) (hi : P.info? e = some i) (hbi : i.bytes = bytes)
    (h1 : s.blk id = some (.vec true e n [.ints k g])) (hfr : s.blk fresh = none) (h0 : 0 ≤ ev.v) (h63 : n + ev.v.toNat ≤ 35184372088832) (hneed : ((n + ev.v.toNat) + (n + ev.v.toNat) / 4 + 192) * bytes ≤ 281474976710656) :
    EffOk P X (.call { callee := .builtin .append, args := #[sx, xx], argTypes := #[t, ti] }) s [.val (.one (.vec id)), .val (.one (.int ki ev))] ⟨.val (.one (.vec fresh)), [id], [(id, some .gone), (fresh, some (.vec true e (n + ev.v.toNat) [.ints k (appN g n fun _ => 0)]))]⟩ := by
  intro o ho hd D s2 a w β hC hb hB hargs hrd hwr K Q hK
  obtain ⟨hu, _, i', hi', hz, hs1, hby⟩ := sliceZero_ok hsz
  rw [hi] at hi'; cases hi'
  subst hbi
  have q1 : s2.blk id = some (.vec true e n [.ints k g]) := by rw [hrd id (by simp), h1]
  have q3 : s2.blk fresh = none := by rw [hwr (fresh, some (.vec true e (n + ev.v.toNat) [.ints k (appN g n fun _ => 0)])) (by simp), hfr]
  have hif : id ≠ fresh := fun e => by rw [e, q3] at q1; cases q1
  obtain ⟨⟨a1, _⟩, a2, _⟩ := hargs
  have a2 : a.eval xx = .int ki ((ev.v.toNat : Nat) : Int) := by
    have a2 : a.eval xx = .int ki ev.v := a2
    rw [a2]; congr 1; omega
  obtain ⟨p1, b1, b2, b3⟩ := hB.mem id _ q1
  rw [a1] at b1; cases b1
  have hB1 := hB.drop q1
  obtain ⟨v', w', β', r1, r2, r3, r4, r5, r6⟩ := append_core (P := P) (t := t) (t2 := ti) (ty := o.type) (s2 := ⟨s2.tmp, upd s2.blk (look [(id, some .gone)])⟩) (fresh := fresh) (m := ev.v.toNat) (cols2 := [.ints k fun _ => 0]) (cols' := [.ints k (appN g n fun _ => 0)]) (x2 := .int ki ((ev.v.toNat : Nat) : Int)) hC hB1 rfl (by simp [appCols, Col.app, kindEq]) b2 (b3 rfl)
    (by simp only [upd_one, if_neg hif.symm]; exact q3)
    (fun i q p b hq hg hp hf hf1 => by
      simp only [upd_one] at hq
      split at hq
      · cases hq; exact hg rfl
      · rename_i hne
        exact hne (hB.inj id i _ q _ p b q1 hq rfl hg a1 hp ((foot_own _ _ _ _ _ _).2 hf1) hf).symm)
    (by omega) (fun xs hown => by
      obtain ⟨v', w', t1, t2, t3, t4⟩ := run_append_zeros (P := P) (k := k) (ki := ki) (kt := kt) t ti o.type e i hu hti hi hz hs1 _ n xs hown ev.v.toNat h63 hby hneed
      refine ⟨v', w', _, t1, t2, t3, t4, by simp [Builtin.zeroCells, Value.cells], fun j hj q c hc => ?_⟩
      cases q with
      | succ q => simp at hc
      | zero =>
        simp at hc; subst hc
        refine ⟨.int k 0, ?_, rfl⟩
        rw [Array.getElem?_toList]
        simpa using zeroCells_get k _ j hj)
  obtain ⟨dst, op, type, pos, after, guard⟩ := o
  simp only at ho; subst ho
  unfold Oper.wp
  have e1 : (execOp a.eval ⟨dst, .call { callee := .builtin .append, args := #[sx, xx], argTypes := #[t, ti] }, type, pos, after, guard⟩).run P w = .ok (.value v') w' := by
    simp only [execOp, resolve, invoke, builtin, Sem.run_bind, Sem.run_pure, Result.andThen_ok]
    have : #[sx, xx].map a.eval = #[a.eval sx, a.eval xx] := by simp
    rw [this, a2]
    rw [show (Builtin.append_ #[t, ti] type #[a.eval sx, .int ki ((ev.v.toNat : Nat) : Int)]).run P w = .ok v' w' from r1]
    rfl
  rw [e1]
  refine hK _ _ ⟨r2, β', Bm.le_trans hb r3, ?_⟩
  rw [look_two _ _ _ _ _ hif]
  exact r6.put hd (v := .val (.one (.vec fresh))) ⟨r4, r5⟩

def shN (op : BinOp) (k : IntKind) (a b : N) : Option L := match op, b with
  | .shl, .lit c => some (.int k (a.map fun x => k.wrap (x * ((2 ^ (min c.toNat k.bits) : Nat) : Int))))
  | .shl, .tm c => some (.int k (.tm (k.wrap (a.v * ((2 ^ (min c.toNat k.bits) : Nat) : Int)))))
  | .shr, .lit c => some (.int k (a.map fun x => x / ((2 ^ (min c.toNat k.bits) : Nat) : Int)))
  | .shr, .tm c => some (.int k (.tm (a.v / ((2 ^ (min c.toNat k.bits) : Nat) : Int))))
  | _, _ => none
theorem gives_shift {op : BinOp} {t yt : TypeId} {x y : Operand} {k k2 : IntKind} {a b : N} {l : L} (h : shN op k a b = some l) (h0 : 0 ≤ b.v) : Gives P (.binOp op t x y yt) [.val (.one (.int k a)), .val (.one (.int k2 b))] (.val (.one l)) := by
  intro β ρ o ho hr
  obtain ⟨dst, op', type, pos, after, guard⟩ := o; simp only at ho; subst ho
  have hx : ρ x = .int k a.v := hr.1
  have hy : ρ y = .int k2 b.v := hr.2.1
  have hn0 : ¬ b.v < 0 := by omega
  have e1 : ∀ n : Nat, ((2 ^ n : Nat) : Int) = 2 ^ n := fun n => by simp
  have e2 : ∀ n : Nat, (0 : Int) ≤ 2 ^ n := fun n => by rw [← e1]; exact Int.natCast_nonneg _
  unfold shN at h
  split at h
  · rename_i c
    cases h
    have hn0 : ¬ c < 0 := hn0
    refine ⟨_, rfl, fun w => ?_⟩
    simp only [execOp, hx, hy, Sem.run_bind, guard_int, Result.andThen_ok, binOp_shl, Op.shift, show (N.lit c).v = c from rfl, if_neg hn0, N.map_ok, e1]
    rfl
  · rename_i c
    cases h
    have hn0 : ¬ c < 0 := hn0
    refine ⟨_, rfl, fun w => ?_⟩
    simp only [execOp, hx, hy, Sem.run_bind, guard_int, Result.andThen_ok, binOp_shl, Op.shift, show (N.tm c).v = c from rfl, if_neg hn0, e1]
    rfl
  · rename_i c
    cases h
    have hn0 : ¬ c < 0 := hn0
    refine ⟨_, rfl, fun w => ?_⟩
    simp only [execOp, hx, hy, Sem.run_bind, guard_int, Result.andThen_ok, binOp_shr, Op.shift, show (N.lit c).v = c from rfl, if_neg hn0, N.map_ok, e1, Int.fdiv_eq_ediv_of_nonneg _ (e2 _)]
    rfl
  · rename_i c
    cases h
    have hn0 : ¬ c < 0 := hn0
    refine ⟨_, rfl, fun w => ?_⟩
    simp only [execOp, hx, hy, Sem.run_bind, guard_int, Result.andThen_ok, binOp_shr, Op.shift, show (N.tm c).v = c from rfl, if_neg hn0, e1, Int.fdiv_eq_ediv_of_nonneg _ (e2 _)]
    rfl
  · cases h
def divN (op : BinOp) (k : IntKind) (a b : N) : Option L := match op with
  | .quo => some (.int k (.tm (k.wrap (a.v.tdiv b.v))))
  | .rem => some (.int k (.tm (a.v.tmod b.v)))
  | _ => none
theorem gives_div {op : BinOp} {t yt : TypeId} {x y : Operand} {k : IntKind} {a b : N} {l : L} (h : divN op k a b = some l) (h0 : b.v ≠ 0) : Gives P (.binOp op t x y yt) [.val (.one (.int k a)), .val (.one (.int k b))] (.val (.one l)) := by
  intro β ρ o ho hr
  obtain ⟨dst, op', type, pos, after, guard⟩ := o; simp only at ho; subst ho
  have hx : ρ x = .int k a.v := hr.1
  have hy : ρ y = .int k b.v := hr.2.1
  unfold divN at h
  split at h
  · cases h
    refine ⟨_, rfl, fun w => ?_⟩
    simp only [execOp, hx, hy, Sem.run_bind, guard_int, Result.andThen_ok, binOp, ne_eq, not_true_eq_false, if_false, Op.intDiv, if_neg h0]
    rfl
  · cases h
    refine ⟨_, rfl, fun w => ?_⟩
    simp only [execOp, hx, hy, Sem.run_bind, guard_int, Result.andThen_ok, binOp, ne_eq, not_true_eq_false, if_false, Op.intDiv, if_neg h0]
    rfl
  · cases h
def lessN (a b : N) : N := N.map2 (fun x y => if y < x then y else x) a b
def moreN (a b : N) : N := N.map2 (fun x y => if y > x then y else x) a b
theorem gives_min {x y : Operand} {ats : Array TypeId} {k k2 : IntKind} {a b : N} : Gives P (.call { callee := .builtin .min, args := #[x, y], argTypes := ats }) [.val (.one (.int k a)), .val (.one (.int k2 b))] (.val (.one (.int k (lessN a b)))) := by
  intro β ρ o ho hr
  obtain ⟨dst, op', type, pos, after, guard⟩ := o; simp only at ho; subst ho
  have hx : ρ x = .int k a.v := hr.1
  have hy : ρ y = .int k2 b.v := hr.2.1
  refine ⟨_, rfl, fun w => ?_⟩
  simp [execOp, resolve, invoke, builtin, Builtin.min_, Builtin.min2, hx, hy, lessN, N.map2_ok]
theorem gives_max {x y : Operand} {ats : Array TypeId} {k k2 : IntKind} {a b : N} : Gives P (.call { callee := .builtin .max, args := #[x, y], argTypes := ats }) [.val (.one (.int k a)), .val (.one (.int k2 b))] (.val (.one (.int k (moreN a b)))) := by
  intro β ρ o ho hr
  obtain ⟨dst, op', type, pos, after, guard⟩ := o; simp only at ho; subst ho
  have hx : ρ x = .int k a.v := hr.1
  have hy : ρ y = .int k2 b.v := hr.2.1
  refine ⟨_, rfl, fun w => ?_⟩
  simp [execOp, resolve, invoke, builtin, Builtin.max_, Builtin.max2, hx, hy, moreN, N.map2_ok]
end
end Go.Proofs.YtpdijogpbnaplaaDoorHz
namespace Go.Proofs.YtpdijogpbnaplaaDoorHz
open Go Go.RowKit
section
variable {P : Program} {X : Cx}

def PathsOk (P : Program) (X : Cx) (op : Op) (s : S) (args : List V) (l : List Path) : Prop := ∃ p ∈ l, holdsP p.g ∧ (holdsP p.need → EfOk P X op s args p.e)
def one1 (v : V) : List Path := [⟨none, none, .det ⟨v, [], []⟩⟩]
theorem one1_ok {op : Op} {s : S} {args : List V} {v : V} (h : Gives P op args v) : PathsOk P X op s args (one1 v) := ⟨_, List.mem_singleton.2 rfl, trivial, fun _ => h.eff s⟩
def oneE (e : Eff) : List Path := [⟨none, none, .det e⟩]
theorem oneE_ok {op : Op} {s : S} {args : List V} {e : Eff} (h : EffOk P X op s args e) : PathsOk P X op s args (oneE e) := ⟨_, List.mem_singleton.2 rfl, trivial, fun _ => h⟩
def oneN (n : Prop) (e : Eff) : List Path := [⟨none, some n, .det e⟩]
theorem oneN_ok {op : Op} {s : S} {args : List V} {n : Prop} {e : Eff} (h : n → EffOk P X op s args e) : PathsOk P X op s args (oneN n e) := ⟨_, List.mem_singleton.2 rfl, trivial, h⟩

def bare : V → V × Option Bool
  | .opt c v => (v, some c)
  | v => (v, none)
theorem bare_ok {v : V} {β : Bm} {x : Value} (h : v.rel β x) (hc : ∀ c, (bare v).2 = some c → c = true) : (bare v).1.rel β x := by
  cases v with
  | opt c v => exact h.1 (hc c rfl)
  | _ => exact h
def needP (k : Bool) (c : Bool) : Option Bool → Option Prop
  | none => none
  | some d => some (c = k → d = true)
theorem needP_ok {k c : Bool} {o : Option Bool} (h : holdsP (needP k c o)) (hc : c = k) : ∀ d, o = some d → d = true := by
  intro d hd
  subst hd
  exact h hc
def and2 : Option Prop → Option Prop → Option Prop
  | none, x => x
  | some p, none => some p
  | some p, some q => some (p ∧ q)
theorem and2_ok {a b : Option Prop} (h : holdsP (and2 a b)) : holdsP a ∧ holdsP b := by
  cases a with
  | none => exact ⟨trivial, h⟩
  | some p => cases b with
    | none => exact ⟨h, trivial⟩
    | some q => exact h
def mergeV (c : Bool) (a b : V) : Option V := match a, b with
  | .val (.one (.bool x)), .val (.one (.bool y)) => some (.val (.one (.bool (.tm (bif c then x.v else y.v)))))
  | .val (.one (.int k x)), .val (.one (.int k' y)) => if kindEq k k' then some (.val (.one (.int k (.tm (bif c then x.v else y.v))))) else none
  | _, _ => none
theorem mergeV_ok {c : Bool} {a b r : V} (h : mergeV c a b = some r) {β : Bm} {x : Value} (ha : c = true → a.rel β x) (hb : c = false → b.rel β x) : r.rel β x := by
  unfold mergeV at h
  split at h
  · cases h
    cases c
    · exact hb rfl
    · exact ha rfl
  · split at h
    · rename_i hk
      have := kindEq_eq hk
      subst this
      cases h
      cases c
      · exact hb rfl
      · exact ha rfl
    · cases h
  · cases h
def pPick (args : List V) : Option (List Path) := match args with
  | [.val (.one (.bool (.lit true))), a, _] => some (one1 a)
  | [.val (.one (.bool (.lit false))), _, b] => some (one1 b)
  | [.val (.one (.bool (.tm c))), a, b] => match mergeV c (bare a).1 (bare b).1 with
    | some r => some [⟨none, and2 (needP true c (bare a).2) (needP false c (bare b).2), .det ⟨r, [], []⟩⟩]
    | none => some [⟨some (c = true), none, .det ⟨a, [], []⟩⟩, ⟨some (c = false), none, .det ⟨b, [], []⟩⟩]
  | _ => none
theorem pPick_ok {c a b : Operand} {s : S} {args : List V} {l : List Path} (h : pPick args = some l) : PathsOk P X (.pick c a b) s args l := by
  unfold pPick at h
  split at h
  · cases h; exact one1_ok (gives_pick c a b (.lit true) _ _)
  · cases h; exact one1_ok (gives_pick c a b (.lit false) _ _)
  · rename_i e va vb
    split at h
    · rename_i r hr
      cases h
      refine ⟨_, List.mem_singleton.2 rfl, trivial, fun hn => ?_⟩
      obtain ⟨h1, h2⟩ := and2_ok hn
      refine Gives.eff (v := r) (fun β ρ o ho hx => ?_) s
      obtain ⟨x, hx1, hx2⟩ := gives_pick (P := P) c a b (.tm e) va vb β ρ o ho hx
      refine ⟨x, mergeV_ok hr (fun hc => ?_) (fun hc => ?_), hx2⟩
      · simp only [B.v, hc, if_true] at hx1
        exact bare_ok hx1 (needP_ok h1 hc)
      · simp only [B.v, hc, Bool.false_eq_true, if_false] at hx1
        exact bare_ok hx1 (needP_ok h2 hc)
    · cases h
      cases he : e with
      | true => exact ⟨_, List.mem_cons_self, rfl, fun _ => by have := gives_pick (P := P) c a b (.tm true) va vb; exact this.eff s⟩
      | false => exact ⟨_, List.mem_cons_of_mem _ List.mem_cons_self, rfl, fun _ => by have := gives_pick (P := P) c a b (.tm false) va vb; exact this.eff s⟩
  · cases h
def lays (P : Program) (t : TypeId) (cells : List L) : Option (List Seg) := match layOf P 16 t with
  | some l => mkSegs l cells
  | none => none
theorem lays_ok {t : TypeId} {cells : List L} {segs : List Seg} (h : lays P t cells = some segs) : ∃ lay, mkSegs lay cells = some segs := by
  unfold lays at h; split at h
  · exact ⟨_, h⟩
  · cases h
def pAlloc (P : Program) (t : TypeId) (fresh : Nat) (args : List V) : Option (List Path) := match args, zeroW P t with
  | [], some zw => match lays P t zw.cells with
    | some segs => some (oneE ⟨.val (.one (.ptr fresh 0)), [], [(fresh, some (.mem true segs))]⟩)
    | none => none
  | _, _ => none
theorem pAlloc_ok {t : TypeId} {s : S} {fresh : Nat} (hf : s.blk fresh = none) {args : List V} {l : List Path} (h : pAlloc P t fresh args = some l) : PathsOk P X (.alloc t) s args l := by
  unfold pAlloc at h
  split at h
  · rename_i zw hz
    split at h
    · rename_i segs hs
      cases h
      obtain ⟨lay, hl⟩ := lays_ok hs
      exact oneE_ok ((makes_alloc hz hl).eff hf)
    · cases h
  · cases h
def lastFam (blk : Nat → Option Ob) (e : TypeId) (k : IntKind) : Nat → Option (Nat × (Nat → Nat) × (Nat → Bool) × (Nat → Nat → Int))
  | 0 => none
  | i + 1 => match blk i with
    | some (.fam true e' k' len dom g) => if Nat.beq e e' && kindEq k k' then some (i, len, dom, g) else lastFam blk e k i
    | _ => lastFam blk e k i
theorem lastFam_ok {blk : Nat → Option Ob} {e : TypeId} {k : IntKind} : ∀ {i : Nat} {r : Nat × (Nat → Nat) × (Nat → Bool) × (Nat → Nat → Int)}, lastFam blk e k i = some r → blk r.1 = some (.fam true e k r.2.1 r.2.2.1 r.2.2.2)
  | 0, _, h => by cases h
  | i + 1, r, h => by
    unfold lastFam at h
    split at h
    · rename_i e' k' len dom g hb
      split at h
      · rename_i hc
        simp only [Bool.and_eq_true] at hc
        cases h
        have := Nat.eq_of_beq_eq_true hc.1
        subst this
        have := kindEq_eq hc.2
        subst this
        exact hb
      · exact lastFam_ok h
    · exact lastFam_ok h
def pGrow (e : TypeId) (k : IntKind) (n : Nat) (h : Nat → Int) (v : Nat → Nat → V) (s : S) (fresh : Nat) : List Path := match lastFam s.blk e k fresh with
  | some (fid, len, dom, g) => [⟨none, some (∀ b, len b = n), .rel Nat [] [fid] (fun b => some (dom b = false)) (fun b => (v fid b, [(fid, some (.fam true e k len (putD dom b) (putBlk g b h)))]))⟩]
  | none => [⟨none, none, .rel Nat [] [fresh] (fun _ => none) (fun b => (v fresh b, [(fresh, some (.fam true e k (fun _ => n) (putD (fun _ => false) b) (putBlk (fun _ _ => 0) b h)))]))⟩]
theorem pGrow_ok {op : Op} {args : List V} {e : TypeId} {k : IntKind} {n : Nat} {h : Nat → Int} {v : Nat → Nat → V} (hm : ∀ hid, MakesBlk P op args e k n h (v hid)) {s : S} {fresh : Nat} (hf : s.blk fresh = none) : PathsOk P X op s args (pGrow e k n h v s fresh) := by
  unfold pGrow
  split
  · rename_i fid len dom g hl
    exact ⟨_, List.mem_singleton.2 rfl, trivial, fun hn => (hm fid).eff (lastFam_ok hl) hn⟩
  · exact ⟨_, List.mem_singleton.2 rfl, trivial, fun _ => (hm fresh).eff0 hf⟩
def pAllocF (P : Program) (t : TypeId) (s : S) (fresh : Nat) (args : List V) : Option (List Path) := match args, arrZero P t with
  | [], some (k, n) => some (pGrow t k n (fun _ => 0) (fun hid b => .val (.one (.fptr hid b 0))) s fresh)
  | _, _ => none
theorem pAllocF_ok {t : TypeId} {s : S} {fresh : Nat} (hf : s.blk fresh = none) {args : List V} {l : List Path} (h : pAllocF P t s fresh args = some l) : PathsOk P X (.alloc t) s args l := by
  unfold pAllocF at h
  split at h
  · rename_i k n hz
    cases h
    exact pGrow_ok (fun hid => makesBlk_alloc hz) hf
  · cases h
def pBoxF (t : TypeId) (s : S) (fresh : Nat) (args : List V) : Option (List Path) := match args with
  | [.val (.arr k n g)] => some (pGrow t k n g (fun hid b => .val (.one (.fptr hid b 0))) s fresh)
  | _ => none
theorem pBoxF_ok {t : TypeId} {x : Operand} {s : S} {fresh : Nat} (hf : s.blk fresh = none) {args : List V} {l : List Path} (h : pBoxF t s fresh args = some l) : PathsOk P X (.box t x) s args l := by
  unfold pBoxF at h
  split at h
  · cases h
    exact pGrow_ok (fun hid => makesBlk_box) hf
  · cases h
def pMakeF (P : Program) (t : TypeId) (s : S) (fresh : Nat) (args : List V) : Option (List Path) := match args, sliceZero P t with
  | [.val (.one (.int _ (.lit a))), .val (.one (.int _ (.lit b)))], some (el, k) => if decide (a = b) && decide (0 ≤ a) && decide (a ≤ 35184372088832) then some (pGrow el k a.toNat (fun _ => 0) (fun hid b => .val (.one (.fsub hid b 0 a.toNat))) s fresh) else none
  | _, _ => none
theorem pMakeF_ok {t : TypeId} {x y : Operand} {s : S} {fresh : Nat} (hf : s.blk fresh = none) {args : List V} {l : List Path} (h : pMakeF P t s fresh args = some l) : PathsOk P X (.makeSlice t x y) s args l := by
  unfold pMakeF at h
  split at h
  · rename_i kl a kc b el k hz
    split at h
    · rename_i hc
      simp only [Bool.and_eq_true, decide_eq_true_eq] at hc
      obtain ⟨⟨rfl, h1⟩, h2⟩ := hc
      cases h
      exact pGrow_ok (fun hid => makesBlk_slice (e1 := .lit a) (e2 := .lit a) hz (by simp only [N.v]; omega) (by simp only [N.v]; omega) (by omega)) hf
    · cases h
  · cases h
def pMake (P : Program) (t : TypeId) (fresh : Nat) (args : List V) : Option (List Path) := match args, sliceZero P t with
  | [.val (.one (.int _ a)), .val (.one (.int _ b))], some (el, k) => some (oneN (0 ≤ a.v ∧ a.v ≤ b.v ∧ b.v.toNat ≤ mkMax P el) ⟨.val (.one (.vec fresh)), [], [(fresh, some (.vec true el a.v.toNat [.ints k fun _ => 0]))]⟩)
  | _, _ => none
theorem pMake_ok {t : TypeId} {x y : Operand} {s : S} {fresh : Nat} (hf : s.blk fresh = none) {args : List V} {l : List Path} (h : pMake P t fresh args = some l) : PathsOk P X (.makeSlice t x y) s args l := by
  unfold pMake at h
  split at h
  · rename_i kl a kc b el k hz
    cases h
    exact oneN_ok fun hn => (makes_slice hz hn.1 hn.2.1 hn.2.2).eff hf
  · cases h
def pBox (P : Program) (t : TypeId) (fresh : Nat) (args : List V) : Option (List Path) := match args with
  | [.val w] => if w.firm then (match lays P t w.cells with
    | some segs => some (oneE ⟨.val (.one (.ptr fresh 0)), [], [(fresh, some (.mem true segs))]⟩)
    | none => none) else none
  | _ => none
theorem pBox_ok {t : TypeId} {x : Operand} {s : S} {fresh : Nat} (hf : s.blk fresh = none) {args : List V} {l : List Path} (h : pBox P t fresh args = some l) : PathsOk P X (.box t x) s args l := by
  unfold pBox at h
  split at h
  · split at h
    · rename_i hfm
      split at h
      · rename_i segs hs
        cases h
        obtain ⟨lay, hl⟩ := lays_ok hs
        exact oneE_ok ((makes_box hfm hl).eff hf)
      · cases h
    · cases h
  · cases h
def pBuildZ (P : Program) (t : TypeId) (parts : List (Nat × Operand)) : Option (List Path) := match parts, arrZero P t, P.underlying t with
  | [], some (k, n), some (.array m el) => (match tySize P el with
    | some _ => if Nat.beq n m then some (one1 (.val (.arr k n fun _ => 0))) else none
    | none => none)
  | _, _, _ => none
theorem pBuildZ_ok {t : TypeId} {parts : Array (Nat × Operand)} {s : S} {l : List Path} (h : pBuildZ P t parts.toList = some l) : PathsOk P X (.build t parts) s [] l := by
  unfold pBuildZ at h
  split at h
  · rename_i k n m el hp hz hu
    split at h
    · rename_i sz hs
      split at h
      · rename_i hnm
        have := Nat.eq_of_beq_eq_true hnm
        subst this
        cases h
        have e : parts = #[] := by apply Array.ext'; rw [hp]
        subst e
        exact one1_ok (gives_buildZero hz hu hs)
      · cases h
    · cases h
  · cases h
def pBuild (P : Program) (t : TypeId) (parts : Array (Nat × Operand)) (args : List V) : Option (List Path) := match allW args with
  | some ws => if Nat.beq ws.length parts.toList.length then (match buildW P t ((parts.toList.map (·.1)).zip ws) with
    | some ls => some (one1 (.val (.agg ls)))
    | none => none) else none
  | none => none
theorem pBuild_ok {t : TypeId} {parts : Array (Nat × Operand)} {s : S} {args : List V} {l : List Path} (h : pBuild P t parts args = some l) : PathsOk P X (.build t parts) s args l := by
  unfold pBuild at h
  split at h
  · rename_i ws hws
    split at h
    · rename_i hlen
      split at h
      · rename_i ls hls
        cases h
        exact one1_ok (gives_build hws (Nat.eq_of_beq_eq_true hlen) hls)
      · cases h
    · cases h
  · cases h
def pSlice1 (P : Program) (t : TypeId) (len : Nat) (parts : List (Nat × Operand)) (fresh : Nat) (args : List V) : Option (List Path) := match len, parts, args, P.underlying t with
  | 1, [(0, _)], [.val w], some (.slice el) => match tySize P el, zeroW P el, colsOf w.cells with
    | some n, some zw, some cols => if Nat.blt 0 n && Nat.ble n 64 && w.firm && Nat.beq w.cells.length n && Nat.beq zw.cells.length n then some (oneE ⟨.val (.one (.vec fresh)), [], [(fresh, some (.vec true el 1 cols))]⟩) else none
    | _, _, _ => none
  | _, _, _, _ => none
theorem pSlice1_ok {t : TypeId} {len : Nat} {parts : Array (Nat × Operand)} {s : S} {fresh : Nat} (hf : s.blk fresh = none) {args : List V} {l : List Path} (h : pSlice1 P t len parts.toList fresh args = some l) : PathsOk P X (.buildSlice t len parts) s args l := by
  unfold pSlice1 at h
  split at h
  · rename_i x w el hp ht
    split at h
    · rename_i n zw cols hn hz hc
      split at h
      · rename_i hb
        simp only [Bool.and_eq_true] at hb
        cases h
        have e : parts = #[(0, x)] := by apply Array.ext'; rw [hp]
        subst e
        exact oneE_ok ((makes_slice1 ht hn (by simpa using hb.1.1.1.1) (Nat.le_of_ble_eq_true hb.1.1.1.2) ⟨zw, hz, Nat.eq_of_beq_eq_true hb.2⟩ hb.1.1.2 (Nat.eq_of_beq_eq_true hb.1.2) hc).eff hf)
      · cases h
    · cases h
  · cases h
def pSliceN (P : Program) (t : TypeId) (len : Nat) (parts : Array (Nat × Operand)) (fresh : Nat) (args : List V) : Option (List Path) := match sliceZero P t with
  | some (el, k) => (match intsW k args with
    | some es => if inRow 0 parts.toList && Nat.beq es.length parts.toList.length && Nat.beq len es.length && Nat.ble len 64 then some (oneE ⟨.val (.one (.vec fresh)), [], [(fresh, some (.vec true el es.length [.ints k (atN es)]))]⟩) else none
    | none => none)
  | none => none
theorem pSliceN_ok {t : TypeId} {len : Nat} {parts : Array (Nat × Operand)} {s : S} {fresh : Nat} (hf : s.blk fresh = none) {args : List V} {l : List Path} (h : pSliceN P t len parts fresh args = some l) : PathsOk P X (.buildSlice t len parts) s args l := by
  unfold pSliceN at h
  split at h
  · rename_i el k hz
    split at h
    · rename_i es hes
      split at h
      · rename_i hb
        simp only [Bool.and_eq_true] at hb
        cases h
        have e1 := Nat.eq_of_beq_eq_true hb.1.1.2
        have e2 := Nat.eq_of_beq_eq_true hb.1.2
        have e3 := Nat.le_of_ble_eq_true hb.2
        subst e2
        exact oneE_ok ((makes_sliceN hz hb.1.1.1 hes (by rw [e1]; simp) e3).eff hf)
      · cases h
    · cases h
  · cases h
def pSliceS (P : Program) (t : TypeId) (len : Nat) (parts : Array (Nat × Operand)) (fresh : Nat) (args : List V) : Option (List Path) := match P.underlying t, allW args with
  | some (.slice el), some ws => (match tySize P el, zeroW P el with
    | some n, some zw => (match colsN ws n with
      | some cols => if inRow 0 parts.toList && Nat.beq ws.length parts.toList.length && Nat.beq len ws.length && Nat.ble (ws.length * n) 64 && Nat.blt 0 n && Nat.blt 0 ws.length && Nat.beq zw.cells.length n && (ws.all fun w => w.firm && Nat.beq w.cells.length n) then some (oneE ⟨.val (.one (.vec fresh)), [], [(fresh, some (.vec true el ws.length cols))]⟩) else none
      | none => none)
    | _, _ => none)
  | _, _ => none
theorem pSliceS_ok {t : TypeId} {len : Nat} {parts : Array (Nat × Operand)} {s : S} {fresh : Nat} (hf : s.blk fresh = none) {args : List V} {l : List Path} (h : pSliceS P t len parts fresh args = some l) : PathsOk P X (.buildSlice t len parts) s args l := by
  unfold pSliceS at h
  split at h
  · rename_i el ws ht ha
    split at h
    · rename_i n zw hn hz
      split at h
      · rename_i cols hc
        split at h
        · rename_i hb
          simp only [Bool.and_eq_true, List.all_eq_true] at hb
          cases h
          obtain ⟨⟨⟨⟨⟨⟨⟨b1, b2⟩, b3⟩, b4⟩, b5⟩, b6⟩, b7⟩, b8⟩ := hb
          have e2 := Nat.eq_of_beq_eq_true b2
          have e3 := Nat.eq_of_beq_eq_true b3
          subst e3
          exact oneE_ok ((makes_sliceS ht hn (by simpa using b5) (Nat.le_of_ble_eq_true b4) (by simpa using b6) ⟨zw, hz, Nat.eq_of_beq_eq_true b7⟩ b1 ha (by rw [e2]; simp) (fun wv hw => by
            have := b8 wv hw
            exact ⟨this.1, Nat.eq_of_beq_eq_true this.2⟩) hc).eff hf)
        · cases h
      · cases h
    · cases h
  · cases h
def pSliceB (P : Program) (t : TypeId) (len : Nat) (parts : Array (Nat × Operand)) (fresh : Nat) (args : List V) : Option (List Path) := match pSlice1 P t len parts.toList fresh args with
  | some l => some l
  | none => match pSliceN P t len parts fresh args with
    | some l => some l
    | none => pSliceS P t len parts fresh args
theorem pSliceB_ok {t : TypeId} {len : Nat} {parts : Array (Nat × Operand)} {s : S} {fresh : Nat} (hf : s.blk fresh = none) {args : List V} {l : List Path} (h : pSliceB P t len parts fresh args = some l) : PathsOk P X (.buildSlice t len parts) s args l := by
  unfold pSliceB at h
  split at h
  · rename_i l' hl
    cases h
    exact pSlice1_ok hf hl
  · split at h
    · rename_i l' hl
      cases h
      exact pSliceN_ok hf hl
    · exact pSliceS_ok hf h
def pLoad (P : Program) (t : TypeId) (s : S) (args : List V) : Option (List Path) := match args with
  | [.val (.one (.ptr id off))] => (match s.blk id with
    | some (.mem _own segs) => (match tyAgg P t, tySize P t with
      | some true, some n => (match loadN segs off n with | some ls => some (oneE ⟨.val (.agg ls), [id], []⟩) | none => none)
      | some false, _ => (match loadCell segs off with | some l => some (oneE ⟨.val (.one l), [id], []⟩) | none => none)
      | _, _ => none)
    | _ => none)
  | [.val (.one (.fptr id b off))] => (match s.blk id with
    | some (.fam _ _ k len dom g) => (match tyAgg P t, tySize P t with
      | some false, _ => some (oneN (dom b = true ∧ off < len b) ⟨.val (.one (.int k (.tm (g b off)))), [id], []⟩)
      | some true, some n => if Nat.beq off 0 then some (oneN (dom b = true ∧ len b = n) ⟨.val (.arr k n (g b)), [id], []⟩) else none
      | _, _ => none)
    | some (.rof k dom vis g) => (match tyAgg P t with
      | some false => some (oneN (dom b = true ∧ vis b off = true) ⟨.val (.one (.int k (.tm (g b off)))), [id], []⟩)
      | _ => none)
    | _ => none)
  | [.val (.one l)] => (match eltId l with
    | some id => (match s.blk id with
      | some ob => (match eltOf ob l with
        | some (i, off, n, cols) => (match tyAgg P t, tySize P t with
          | some true, some m => if Nat.ble (off + m) cols.length then some (oneN (i < n) ⟨.val (.agg (((eltLs cols i).drop off).take m)), [id], []⟩) else none
          | some false, _ => (match (eltLs cols i)[off]? with | some r => some (oneN (i < n) ⟨.val (.one r), [id], []⟩) | none => none)
          | _, _ => none)
        | none => none)
      | none => none)
    | none => none)
  | _ => none
theorem pLoad_ok {t : TypeId} {x : Operand} {s : S} {args : List V} {l : List Path} (h : pLoad P t s args = some l) : PathsOk P X (.load t x) s args l := by
  unfold pLoad at h
  split at h
  · split at h
    · rename_i own segs hb
      split at h
      · rename_i n h1 h2
        split at h
        · rename_i ls hl; cases h; exact oneE_ok ((reads_load h1 h2 hl).eff hb)
        · cases h
      · rename_i h1
        split at h
        · rename_i r hl; cases h; exact oneE_ok ((reads_load1 h1 hl).eff hb)
        · cases h
      · cases h
    · cases h
  · rename_i id b off
    split at h
    · rename_i own e k len dom g hb
      split at h
      · rename_i h1
        cases h; exact oneN_ok fun hn => (reads_fptr h1 hn.1 hn.2).eff hb
      · rename_i n h1 h2
        split at h
        · rename_i ho
          have := Nat.eq_of_beq_eq_true ho
          subst this
          cases h; exact oneN_ok fun hn => (reads_fptrAll h1 h2 hn.1 hn.2).eff hb
        · cases h
      · cases h
    · rename_i k dom vis g hb
      split at h
      · rename_i h1
        cases h; exact oneN_ok fun hn => (reads_fptrR h1 hn.1 hn.2).eff hb
      · cases h
    · cases h
  · split at h
    · rename_i id hid
      split at h
      · rename_i ob hb
        split at h
        · rename_i i off n cols he
          split at h
          · rename_i m h1 h2
            split at h
            · rename_i hm; cases h; exact oneN_ok fun hi => (reads_elt hid he h1 h2 (Nat.le_of_ble_eq_true hm) hi).eff hb
            · cases h
          · rename_i h1
            split at h
            · rename_i r hr; cases h; exact oneN_ok fun hi => (reads_elt1 hid he h1 hr hi).eff hb
            · cases h
          · cases h
        · cases h
      · cases h
    · cases h
  · cases h
def pStore (P : Program) (t : TypeId) (s : S) (args : List V) : Option (List Path) := match args with
  | [.val (.one (.ptr id off)), .val w] => (match s.blk id, tySize P t with
    | some (.mem true segs), some n => if w.firm && Nat.beq w.cells.length n && Nat.ble off (segsSize segs) then (match storeS segs off w.cells with
      | some segs' => some (oneE ⟨undefV, [], [(id, some (.mem true segs'))]⟩)
      | none => none) else none
    | _, _ => none)
  | [.val (.one (.fptr id b off)), .val (.one (.int k v))] => (match s.blk id, tySize P t with
    | some (.fam true e k' len dom g), some n => if kindEq k k' && Nat.beq n 1 then some (oneN (dom b = true ∧ off < len b) ⟨undefV, [], [(id, some (.fam true e k' len dom (putB g b off v.v)))]⟩) else none
    | _, _ => none)
  | [.val (.one (.fptr id b off)), .val (.arr k n h)] => (match s.blk id, tySize P t with
    | some (.fam true e k' len dom g), some m => if kindEq k k' && Nat.beq n m && Nat.beq off 0 then some (oneN (dom b = true ∧ len b = n) ⟨undefV, [], [(id, some (.fam true e k' len dom (putBlk g b h)))]⟩) else none
    | _, _ => none)
  | [.val (.one (.elt id base stride i off)), .val wv] => (match s.blk id, tySize P t with
    | some (.mem true segs), some m => if wv.firm && Nat.beq wv.cells.length m && !wv.cells.isEmpty then (match storeEltN segs base stride i off wv.cells, rowAt segs base with
      | some segs', some (n, _) => some (oneN (i < n) ⟨undefV, [], [(id, some (.mem true segs'))]⟩)
      | _, _ => none) else none
    | _, _ => none)
  | [.val (.one (.lel id stride i off)), .val wv] => (match s.blk id, tySize P t with
    | some (.vec true e n cols), some m => if wv.firm && Nat.beq wv.cells.length m && !wv.cells.isEmpty && Nat.beq stride cols.length then (match putCols i cols off wv.cells with
      | some cols' => some (oneN (i < n) ⟨undefV, [], [(id, some (.vec true e n cols'))]⟩)
      | none => none) else none
    | _, _ => none)
  | _ => none
theorem pStore_ok {t : TypeId} {x y : Operand} {s : S} {args : List V} {l : List Path} (h : pStore P t s args = some l) : PathsOk P X (.store t x y) s args l := by
  unfold pStore at h
  split at h
  · split at h
    · rename_i segs n hb hn
      split at h
      · rename_i hc
        simp only [Bool.and_eq_true] at hc
        split at h
        · rename_i segs' hs
          cases h
          exact oneE_ok ((writes_cells hn hc.1.1 (Nat.eq_of_beq_eq_true hc.1.2) hs (Nat.le_of_ble_eq_true hc.2)).eff hb)
        · cases h
      · cases h
    · cases h
  · split at h
    · rename_i e k' len dom g n hb hn
      split at h
      · rename_i hc
        simp only [Bool.and_eq_true] at hc
        have := kindEq_eq hc.1
        subst this
        have := Nat.eq_of_beq_eq_true hc.2
        subst this
        cases h
        exact oneN_ok fun hd => (writes_fptr hn hd.1 hd.2).eff hb
      · cases h
    · cases h
  · split at h
    · rename_i e k' len dom g m hb hn
      split at h
      · rename_i hc
        simp only [Bool.and_eq_true] at hc
        have := kindEq_eq hc.1.1
        subst this
        have := Nat.eq_of_beq_eq_true hc.1.2
        subst this
        have := Nat.eq_of_beq_eq_true hc.2
        subst this
        cases h
        exact oneN_ok fun hd => (writes_fptrAll hn hd.1 hd.2).eff hb
      · cases h
    · cases h
  · split at h
    · rename_i segs m hb hn
      split at h
      · rename_i hf
        simp only [Bool.and_eq_true, Bool.not_eq_true', List.isEmpty_eq_false_iff] at hf
        split at h
        · rename_i segs' n cols hs hr
          cases h
          exact oneN_ok fun hi => (writes_elt hn hf.1.1 (Nat.eq_of_beq_eq_true hf.1.2) hs hf.2 hr hi).eff hb
        · cases h
      · cases h
    · cases h
  · split at h
    · rename_i e n cols m hb hn
      split at h
      · rename_i hf
        simp only [Bool.and_eq_true, Bool.not_eq_true', List.isEmpty_eq_false_iff] at hf
        have := Nat.eq_of_beq_eq_true hf.2
        subst this
        split at h
        · rename_i cols' hc
          cases h
          exact oneN_ok fun hi => (writes_lel hn hf.1.1.1 (Nat.eq_of_beq_eq_true hf.1.1.2) hc hf.1.2 hi).eff hb
        · cases h
      · cases h
    · cases h
  · cases h
def pNil (args : List V) : Option (List Path) := match args with
  | [.val (.one l)] => if isPtr l then some (one1 (.val (.one l))) else none
  | _ => none
theorem pNil_ok {x : Operand} {s : S} {args : List V} {l : List Path} (h : pNil args = some l) : PathsOk P X (.nilCheck x) s args l := by
  unfold pNil at h
  split at h
  · split at h
    · rename_i hp; cases h; exact one1_ok (gives_nilCheck x hp)
    · cases h
  · cases h
def ptrTy (P : Program) (t : TypeId) : Bool := match P.underlying t with
  | some (.pointer _) => true
  | _ => false
theorem ptrTy_ok {t : TypeId} (h : ptrTy P t = true) : P.underlying t = some (.pointer (P.pointee t)) := by
  unfold ptrTy at h
  split at h
  · rename_i u hu; simp [Program.pointee, hu]
  · cases h
def pBin (P : Program) (op : BinOp) (t : TypeId) (args : List V) : Option (List Path) := match args with
  | [.val (.one (.cst (.pointer none))), .val (.one (.cst (.pointer none)))] => if ptrTy P t then (match op with
    | .eql => some (one1 (.val (.one (.bool (.lit true)))))
    | .neq => some (one1 (.val (.one (.bool (.lit false)))))
    | _ => none) else none
  | [.val (.one l), .val (.one (.cst (.pointer none)))] => if isPtr l && ptrTy P t then (match op with
    | .eql => some (one1 (.val (.one (.bool (.lit false)))))
    | .neq => some (one1 (.val (.one (.bool (.lit true)))))
    | _ => none) else none
  | [.val (.arr k n g), .val (.arr k' n' h)] => (match P.underlying t with
    | some (.array m el) => (match P.underlying el, tySize P el with
      | some (.int k2), some 1 => if kindEq k k' && kindEq k k2 && Nat.beq n n' && Nat.beq n m && !P.eqGuardType P.depth t then (match op with
        | .eql => some (one1 (.val (.one (.bool (.tm (rowEq n g h))))))
        | .neq => some (one1 (.val (.one (.bool (.tm (!rowEq n g h))))))
        | _ => none) else none
      | _, _ => none)
    | _ => none)
  | [.val a, .val b] => (match binV P op t a b with
    | some r => some (one1 (.val (.one r)))
    | none => (match a, b with
      | .one (.int k x), .one (.int k' y) => (match shN op k x y with
        | some l => (match y with
          | .lit c => if 0 ≤ c then some (one1 (.val (.one l))) else none
          | .tm c => some (oneN (0 ≤ c) ⟨.val (.one l), [], []⟩))
        | none => (match divN op k x y with
          | some l => if kindEq k k' then some (oneN (y.v ≠ 0) ⟨.val (.one l), [], []⟩) else none
          | none => none))
      | _, _ => none))
  | _ => none
theorem pBin_ok {op : BinOp} {t yt : TypeId} {x y : Operand} {s : S} {args : List V} {l : List Path} (h : pBin P op t args = some l) : PathsOk P X (.binOp op t x y yt) s args l := by
  unfold pBin at h
  split at h
  · split at h
    · rename_i ht
      split at h
      · cases h; exact one1_ok (gives_nilNil (ptrTy_ok ht) (.inl ⟨rfl, rfl⟩))
      · cases h; exact one1_ok (gives_nilNil (ptrTy_ok ht) (.inr ⟨rfl, rfl⟩))
      · cases h
    · cases h
  · split at h
    · rename_i hc
      simp only [Bool.and_eq_true] at hc
      split at h
      · cases h; exact one1_ok (gives_ptrNil hc.1 (ptrTy_ok hc.2) (.inl ⟨rfl, rfl⟩))
      · cases h; exact one1_ok (gives_ptrNil hc.1 (ptrTy_ok hc.2) (.inr ⟨rfl, rfl⟩))
      · cases h
    · cases h
  · rename_i k n g k' n' h'
    split at h
    · rename_i m el hu
      split at h
      · rename_i k2 he hs
        split at h
        · rename_i hc
          simp only [Bool.and_eq_true, Bool.not_eq_true'] at hc
          obtain ⟨⟨⟨⟨c1, c2⟩, c3⟩, c4⟩, c5⟩ := hc
          have := kindEq_eq c1
          subst this
          have := kindEq_eq c2
          subst this
          have := Nat.eq_of_beq_eq_true c3
          subst this
          have := Nat.eq_of_beq_eq_true c4
          subst this
          split at h
          · cases h; exact one1_ok (gives_rowEq hu he hs c5 (.inl ⟨rfl, rfl⟩))
          · cases h; exact one1_ok (gives_rowEq hu he hs c5 (.inr ⟨rfl, rfl⟩))
          · cases h
        · cases h
      · cases h
    · cases h
  · split at h
    · rename_i r hr; cases h; exact one1_ok (gives_bin hr)
    · split at h
      · rename_i k x k' y
        split at h
        · rename_i r hr
          split at h
          · split at h
            · rename_i h0; cases h; exact one1_ok (gives_shift hr h0)
            · cases h
          · cases h; exact oneN_ok fun h0 => (gives_shift hr h0).eff s
        · split at h
          · rename_i r hr
            split at h
            · rename_i hk
              have := kindEq_eq hk
              subst this
              cases h; exact oneN_ok fun h0 => (gives_div hr h0).eff s
            · cases h
          · cases h
      · cases h
  · cases h
def pUn (op : UnOp) (args : List V) : Option (List Path) := match op, args with
  | .not, [.val (.one (.bool e))] => some (one1 (.val (.one (.bool (mkNot e)))))
  | .neg, [.val (.one (.int k e))] => some (one1 (.val (.one (.int k (e.map fun n => k.wrap (0 - n))))))
  | .xor, [.val (.one (.int k e))] => some (one1 (.val (.one (.int k (e.map fun n => Go.bits .xor k (if k.signed then -1 else k.max) n)))))
  | _, _ => none
theorem pUn_ok {op : UnOp} {t : TypeId} {x : Operand} {s : S} {args : List V} {l : List Path} (h : pUn op args = some l) : PathsOk P X (.unOp op t x) s args l := by
  unfold pUn at h
  split at h
  · cases h; exact one1_ok (gives_not _)
  · cases h; exact one1_ok (gives_neg _ _)
  · cases h; exact one1_ok (gives_compl _ _)
  · cases h
def pConv (P : Program) (src d : TypeId) (args : List V) : Option (List Path) := match args, P.underlying src, P.underlying d with
  | [.val (.one (.int _ e))], some _, some (.int k) => some (one1 (.val (.one (.int k (e.map k.wrap)))))
  | _, _, _ => none
theorem pConv_ok {src d : TypeId} {x : Operand} {s : S} {args : List V} {l : List Path} (h : pConv P src d args = some l) : PathsOk P X (.convert src d x) s args l := by
  unfold pConv at h
  split at h
  · rename_i h1 h2; cases h; exact one1_ok (gives_convert h1 h2)
  · cases h
def pFieldAddr (P : Program) (t : TypeId) (f : Nat) (args : List V) : Option (List Path) := match args, P.underlying t with
  | [.val (.one l)], some (.struct fs) => (match fs[f]? with
    | some g => (match tySize P g.type, moveL g.offset l with
      | some (_ + 1), some l' => some (one1 (.val (.one l')))
      | _, _ => none)
    | none => none)
  | _, _ => none
theorem pFieldAddr_ok {t : TypeId} {x : Operand} {f : Nat} {s : S} {args : List V} {l : List Path} (h : pFieldAddr P t f args = some l) : PathsOk P X (.fieldAddr t x f) s args l := by
  unfold pFieldAddr at h
  split at h
  · rename_i h1
    split at h
    · rename_i g hg
      split at h
      · rename_i n l' hn hl; cases h; exact one1_ok (gives_fieldAddr h1 hg hn (by omega) hl)
      · cases h
    · cases h
  · cases h
def pField (P : Program) (t : TypeId) (f : Nat) (args : List V) : Option (List Path) := match args, P.underlying t with
  | [.val (.agg ls)], some (.struct fs) => (match fs[f]? with
    | some g => (match partW P g.type ls g.offset with
      | some w => some (one1 (.val w))
      | none => none)
    | none => none)
  | _, _ => none
theorem pField_ok {t : TypeId} {x : Operand} {f : Nat} {s : S} {args : List V} {l : List Path} (h : pField P t f args = some l) : PathsOk P X (.field t x f) s args l := by
  unfold pField at h
  split at h
  · rename_i h1
    split at h
    · rename_i g hg
      split at h
      · rename_i w hw; cases h; exact one1_ok (gives_field h1 hg hw)
      · cases h
    · cases h
  · cases h
def idxPaths (id off n len : Nat) (c : Int) : List Path := ((List.range len).map fun (j : Nat) => (⟨some (c = j), none, .det ⟨.val (.one (.ptr id (off + j * n))), [], []⟩⟩ : Path)) ++ [⟨some (¬ (0 ≤ c ∧ c < len)), some False, .det ⟨undefV, [], []⟩⟩]
theorem idxPaths_ok {op : Op} {s : S} {args : List V} {id off n len : Nat} {c : Int} (h : 0 ≤ c → c < len → Gives P op args (.val (.one (.ptr id (off + c.toNat * n))))) : PathsOk P X op s args (idxPaths id off n len c) := by
  by_cases hc : 0 ≤ c ∧ c < len
  · refine ⟨⟨some (c = c.toNat), none, .det ⟨.val (.one (.ptr id (off + c.toNat * n))), [], []⟩⟩, List.mem_append_left _ (List.mem_map.2 ⟨c.toNat, List.mem_range.2 (by omega), rfl⟩), ?_, fun _ => (h hc.1 hc.2).eff s⟩
    show c = c.toNat
    omega
  · exact ⟨_, List.mem_append_right _ (List.mem_singleton.2 rfl), hc, fun hn => hn.elim⟩
def pIndexAddr (P : Program) (t : TypeId) (s : S) (args : List V) : Option (List Path) := match args, P.underlying t with
  | [.val (.one (.ptr id off)), .val (.one (.int _ e))], some (.array len el) => (match tySize P el with
    | some n => (match e with
      | .lit c => if 0 ≤ c ∧ c < len then some (one1 (.val (.one (.ptr id (off + c.toNat * n))))) else none
      | .tm c => (match s.blk id with
        | some (.mem _ segs) => (match rowAt segs off with
          | some _ => some (oneN (0 ≤ c ∧ c < len) ⟨.val (.one (.elt id off n c.toNat 0)), [], []⟩)
          | none => if Nat.ble len 16 then some (idxPaths id off n len c) else none)
        | _ => some (oneN (0 ≤ c ∧ c < len) ⟨.val (.one (.elt id off n c.toNat 0)), [], []⟩)))
    | none => none)
  | [.val (.one (.fptr hid b off)), .val (.one (.int _ e))], some (.array len el) => (match tySize P el with
    | some 1 => some (oneN (0 ≤ e.v ∧ e.v < len) ⟨.val (.one (.fptr hid b (off + e.v.toNat))), [], []⟩)
    | _ => none)
  | [.val (.one (.fsub hid b lo n)), .val (.one (.int _ e))], some (.slice el) => (match tySize P el with
    | some 1 => some (oneN (0 ≤ e.v ∧ e.v < n) ⟨.val (.one (.fptr hid b (lo + e.v.toNat))), [], []⟩)
    | _ => none)
  | [.val (.one (.sub id st lo n)), .val (.one (.int _ e))], some (.slice el) => (match tySize P el with
    | some m => if Nat.beq m st then some (oneN (0 ≤ e.v ∧ e.v < n) ⟨.val (.one (.lel id m (lo + e.v.toNat) 0)), [], []⟩) else none
    | _ => none)
  | [.val (.one (.vec id)), .val (.one (.int _ e))], some (.slice el) => (match tySize P el, s.blk id with
    | some n, some (.vec _ _ m _) => some (oneN (0 ≤ e.v ∧ e.v < m) ⟨.val (.one (.lel id n e.v.toNat 0)), [id], []⟩)
    | _, _ => none)
  | _, _ => none
theorem pIndexAddr_ok {t : TypeId} {x i : Operand} {s : S} {args : List V} {l : List Path} (h : pIndexAddr P t s args = some l) : PathsOk P X (.indexAddr t x i) s args l := by
  unfold pIndexAddr at h
  split at h
  · rename_i h1
    split at h
    · rename_i n hn
      split at h
      · split at h
        · rename_i hc; cases h; exact one1_ok (gives_indexArr h1 hn hc.1 hc.2 (.inr rfl))
        · cases h
      · split at h
        · split at h
          · cases h; exact oneN_ok fun hc => (gives_indexArr (e := .tm _) h1 hn hc.1 hc.2 (.inl rfl)).eff s
          · split at h
            · cases h; exact idxPaths_ok fun h0 hl => gives_indexArr (e := .tm _) h1 hn h0 hl (.inr rfl)
            · cases h
        · cases h; exact oneN_ok fun hc => (gives_indexArr (e := .tm _) h1 hn hc.1 hc.2 (.inl rfl)).eff s
    · cases h
  · rename_i h1
    split at h
    · rename_i hn
      cases h; exact oneN_ok fun hc => (gives_indexFptr h1 hn hc.1 hc.2).eff s
    · cases h
  · rename_i h1
    split at h
    · rename_i hn
      cases h; exact oneN_ok fun hc => (gives_indexFsub h1 hn hc.1 hc.2).eff s
    · cases h
  · rename_i h1
    split at h
    · rename_i m hn
      split at h
      · rename_i hm
        have := Nat.eq_of_beq_eq_true hm
        subst this
        cases h; exact oneN_ok fun hc => (reads_indexSub h1 hn hc.1 hc.2).eff s
      · cases h
    · cases h
  · rename_i h1
    split at h
    · rename_i n own ety m cols hn hb
      cases h; exact oneN_ok fun hc => (reads_indexVec h1 hn hc.1 hc.2).eff hb
    · cases h
  · cases h
def pIndex (P : Program) (t : TypeId) (args : List V) : Option (List Path) := match args, P.underlying t with
  | [.val (.agg ls), .val (.one (.int _ (.lit c)))], some (.array len el) => (match tySize P el with
    | some n => if 0 ≤ c ∧ c < len then (match partW P el ls (c.toNat * n) with
      | some w => some (one1 (.val w))
      | none => none) else none
    | none => none)
  | _, _ => none
theorem pIndex_ok {t : TypeId} {x i : Operand} {s : S} {args : List V} {l : List Path} (h : pIndex P t args = some l) : PathsOk P X (.index t x i) s args l := by
  unfold pIndex at h
  split at h
  · rename_i h1
    split at h
    · rename_i n hn
      split at h
      · rename_i hc
        split at h
        · rename_i w hw; cases h; exact one1_ok (gives_index (e := .lit _) h1 hn hc.1 hc.2 hw)
        · cases h
      · cases h
    · cases h
  · cases h
def pLookup (P : Program) (t : TypeId) (ok : Bool) (s : S) (args : List V) : Option (List Path) := match args, P.underlying t with
  | [.val (.one (.map id)), .val (.one (.int key e))], some (.map kt et) => (match P.underlying kt, s.blk id, zeroW P et with
    | some (.int _), some (.mp _ key' agg has cols), some zw => if kindEq key key' then (match kW agg cols e.v with
      | some w => some [⟨some (has e.v = true), none, .det ⟨if ok then .tup [w, .one (.bool (.lit true))] else .val w, [id], []⟩⟩, ⟨some (has e.v = false), none, .det ⟨if ok then .tup [zw, .one (.bool (.lit false))] else .val zw, [id], []⟩⟩]
      | none => none) else none
    | _, _, _ => none)
  | _, _ => none
theorem pLookup_ok {t : TypeId} {x i : Operand} {ok : Bool} {s : S} {args : List V} {l : List Path} (h : pLookup P t ok s args = some l) : PathsOk P X (.lookup t x i ok) s args l := by
  unfold pLookup at h
  split at h
  · rename_i id key e kt et h1
    split at h
    · rename_i own key' agg has cols zw h2 hb hz
      split at h
      · rename_i hk
        have := kindEq_eq hk
        subst this
        split at h
        · rename_i w hw
          cases h
          have key : has e.v = true ∨ has e.v = false := by cases has e.v <;> simp
          rcases key with hh | hh
          · exact ⟨_, List.mem_cons_self, hh, fun _ => (reads_lookup h1 h2 hh hw).eff hb⟩
          · exact ⟨_, List.mem_cons_of_mem _ List.mem_cons_self, hh, fun _ => (reads_lookupNo h1 h2 hh hz).eff hb⟩
        · cases h
      · cases h
    · cases h
  · cases h
def pUpdate (P : Program) (t : TypeId) (s : S) (args : List V) : Option (List Path) := match args, P.underlying t with
  | [.val (.one (.map id)), .val (.one (.int key e)), .val w], some (.map kt _) => (match P.underlying kt, s.blk id with
    | some (.int _), some (.mp true key' agg has cols) => if kindEq key key' then (match kCells agg w with
      | some ls => (match kPuts e.v cols ls with
        | some cols' => some (oneE ⟨undefV, [], [(id, some (.mp true key' agg (putK has e.v true) cols'))]⟩)
        | none => none)
      | none => none) else none
    | _, _ => none)
  | _, _ => none
theorem pUpdate_ok {t : TypeId} {m i v : Operand} {s : S} {args : List V} {l : List Path} (h : pUpdate P t s args = some l) : PathsOk P X (.mapUpdate t m i v) s args l := by
  unfold pUpdate at h
  split at h
  · rename_i id key e w kt et h1
    split at h
    · rename_i kk key' agg has cols h2 hb
      split at h
      · rename_i hk
        have := kindEq_eq hk
        subst this
        split at h
        · rename_i ls hc
          split at h
          · rename_i cols' hp; cases h; exact oneE_ok ((writes_mapUpdate h1 h2 hc hp).eff hb)
          · cases h
        · cases h
      · cases h
    · cases h
  · cases h
def zeroKCol (P : Program) (t : TypeId) : Option KCol := match P.underlying t with
  | some .bool => some (.bools fun _ => false)
  | some (.int k) => some (.ints k fun _ => 0)
  | some (.pointer _) => some (.fptrs noHint fun _ => 0)
  | _ => none
def zeroKCols (P : Program) : List TypeId → Option (List KCol)
  | [] => some []
  | t :: ts => match zeroKCol P t, zeroKCols P ts with
    | some c, some cs => some (c :: cs)
    | _, _ => none
def mapCols (P : Program) (et : TypeId) : Option (Bool × List KCol) := match P.underlying et with
  | some (.struct fs) => (match zeroKCols P (fs.toList.map (·.type)) with | some cs => some (true, cs) | none => none)
  | _ => (match zeroKCol P et with | some c => some (false, [c]) | none => none)
def pMakeMap (P : Program) (t : TypeId) (fresh : Nat) (args : List V) : Option (List Path) := match args, P.underlying t with
  | [], some (.map kt et) => (match P.underlying kt, mapCols P et with
    | some (.int key), some (agg, cols) => some (oneE ⟨.val (.one (.map fresh)), [], [(fresh, some (.mp true key agg (fun _ => false) cols))]⟩)
    | _, _ => none)
  | _, _ => none
theorem pMakeMap_ok {t : TypeId} {s : S} {fresh : Nat} (hf : s.blk fresh = none) {args : List V} {l : List Path} (h : pMakeMap P t fresh args = some l) : PathsOk P X (.makeMap t none) s args l := by
  unfold pMakeMap at h
  split at h
  · split at h
    · cases h; exact oneE_ok ((makes_map _ _ _).eff hf)
    · cases h
  · cases h
def pExtract (i : Nat) (args : List V) : Option (List Path) := match args with
  | [.tup ws] => (match ws[i]? with | some w => some (one1 (.val w)) | none => none)
  | _ => none
theorem pExtract_ok {x : Operand} {i : Nat} {s : S} {args : List V} {l : List Path} (h : pExtract i args = some l) : PathsOk P X (.extract x i) s args l := by
  unfold pExtract at h
  split at h
  · split at h
    · rename_i w hw; cases h; exact one1_ok (gives_extract hw)
    · cases h
  · cases h
def pLen (P : Program) (ats : Array TypeId) (s : S) (args : List V) : Option (List Path) := match args, ats[0]? with
  | [.val (.one (.vec id))], some t => (match P.underlying t, s.blk id with
    | some (.slice _), some (.vec _ _ n _) => some (oneE ⟨.val (.one (.int .i64 (.tm n))), [id], []⟩)
    | _, _ => none)
  | [.val (.one (.cst (.slice none 0 0)))], some t => (match P.underlying t with
    | some (.slice _) => some (one1 (.val (.one (.int .i64 (.lit 0)))))
    | _ => none)
  | [.val (.one (.fsub _ _ _ n))], some t => (match P.underlying t with
    | some (.slice _) => some (one1 (.val (.one (.int .i64 (.tm n)))))
    | _ => none)
  | [.val (.one (.sub _ _ _ n))], some t => (match P.underlying t with
    | some (.slice _) => some (one1 (.val (.one (.int .i64 (.tm n)))))
    | _ => none)
  | _, _ => none
theorem pLen_ok {x : Operand} {ats : Array TypeId} {s : S} {args : List V} {l : List Path} (h : pLen P ats s args = some l) : PathsOk P X (.call { callee := .builtin .len, args := #[x], argTypes := ats }) s args l := by
  unfold pLen at h
  split at h
  · rename_i h0
    split at h
    · rename_i h1 hb; cases h; exact oneE_ok ((reads_len h0 h1).eff hb)
    · cases h
  · rename_i h0
    split at h
    · rename_i h1; cases h; exact one1_ok (gives_lenNil h0 h1)
    · cases h
  · rename_i h0
    split at h
    · rename_i h1; cases h; exact one1_ok (gives_lenFsub h0 h1)
    · cases h
  · rename_i h0
    split at h
    · rename_i h1; cases h; exact one1_ok (gives_lenSub h0 h1)
    · cases h
  · cases h
def pDelete (P : Program) (ats : Array TypeId) (s : S) (args : List V) : Option (List Path) := match args, ats[0]? with
  | [.val (.one (.map id)), .val (.one (.int key e))], some t => (match P.underlying t with
    | some (.map kt _) => (match P.underlying kt, s.blk id with
      | some (.int _), some (.mp true key' agg has cols) => if kindEq key key' then some (oneE ⟨.tup [], [], [(id, some (.mp true key' agg (putK has e.v false) cols))]⟩) else none
      | _, _ => none)
    | _ => none)
  | _, _ => none
theorem pDelete_ok {x y : Operand} {ats : Array TypeId} {s : S} {args : List V} {l : List Path} (h : pDelete P ats s args = some l) : PathsOk P X (.call { callee := .builtin .delete, args := #[x, y], argTypes := ats }) s args l := by
  unfold pDelete at h
  split at h
  · rename_i id key e t h0
    split at h
    · rename_i kt et h1
      split at h
      · rename_i kk key' agg has cols h2 hs
        split at h
        · rename_i hk
          have := kindEq_eq hk
          subst this
          cases h
          refine oneE_ok ?_
          intro o ho hd D s2 a w β hc hb hB hargs _ hwr K Q hK
          have hs2 : s2.blk id = some (.mp true key agg has cols) := by rw [hwr (id, some (.mp true key agg (putK has e.v false) cols)) (by simp), hs]
          obtain ⟨p, k1, k2, k3⟩ := hB.mem id _ hs2
          obtain ⟨w', r1, r2, r3, r4, r5, r6, r7⟩ := writes_delete (m := x) (i := y) h0 h1 h2 β a.eval o w p ho hargs k1 k2
          unfold Oper.wp
          rw [r1]
          have hBw := hB.write (w' := w') hs2 rfl rfl k1 (by omega) (fun k _ hk => r6 k hk) (Nat.le_trans hc.base hc.size) r7 (fun b hb => .inl hb)
          refine hK _ _ ⟨hc.later r2 r3 r4 (by omega) (fun k hk hF => r6 k fun hf => ?_), β, hb, ?_⟩
          · rcases k3 rfl k hf with h1 | h1
            · omega
            · exact hF h1
          · exact hBw.put hd (v := .tup []) ⟨#[], rfl, trivial⟩
        · cases h
      · cases h
    · cases h
  · cases h
def pAppend (P : Program) (ats : Array TypeId) (s : S) (fresh : Nat) (args : List V) : Option (List Path) := match args, ats.toList with
  | [.val (.one (.vec id)), .val (.one (.int _ ev))], [t, ti] => (match sliceZero P t, s.blk id, P.underlying ti with
    | some (e, k), some (.vec true e' n [.ints k' g]), some (.int _) => (match P.info? e with
      | some i => if Nat.beq e e' && kindEq k k' then some (oneN (0 ≤ ev.v ∧ n + ev.v.toNat ≤ 35184372088832 ∧ ((n + ev.v.toNat) + (n + ev.v.toNat) / 4 + 192) * i.bytes ≤ 281474976710656) ⟨.val (.one (.vec fresh)), [id], [(id, some .gone), (fresh, some (.vec true e (n + ev.v.toNat) [.ints k (appN g n fun _ => 0)]))]⟩) else none
      | none => none)
    | _, _, _ => none)
  | [.val (.one (.vec id)), .val (.one l2)], [t, t'] => if Nat.beq t t' then (match appTy P t, s.blk id, srcOf s l2 with
    | some (e, stride, bytes), some (.vec true e' n cols), some (id2, m, cols2, nd) => if !Nat.beq id id2 && Nat.beq e e' && Nat.beq cols.length stride && cols2.all Col.plain then (match appCols n cols cols2 with
      | some cols' => some [⟨none, and2 nd (some (((n + m) + (n + m) / 4 + 192) * bytes ≤ 281474976710656)), .det ⟨.val (.one (.vec fresh)), [id, id2], [(id, some .gone), (fresh, some (.vec true e (n + m) cols'))]⟩⟩]
      | none => none) else none
    | _, _, _ => none) else none
  | [.val (.one (.cst (.slice none 0 0))), .val (.one l2)], [t, t'] => if Nat.beq t t' then (match appTy P t, srcOf s l2 with
    | some (e, stride, bytes), some (id2, m, cols2, nd) => if Nat.beq cols2.length stride && cols2.all Col.plain then (match appCols 0 cols2 cols2 with
      | some cols' => some [⟨none, and2 nd (some (((0 + m) + (0 + m) / 4 + 192) * bytes ≤ 281474976710656)), .det ⟨.val (.one (.vec fresh)), [id2], [(fresh, some (.vec true e (0 + m) cols'))]⟩⟩]
      | none => none) else none
    | _, _ => none) else none
  | _, _ => none
theorem pAppend_ok {x y : Operand} {ats : Array TypeId} {s : S} {fresh : Nat} (hf : s.blk fresh = none) {args : List V} {l : List Path} (h : pAppend P ats s fresh args = some l) : PathsOk P X (.call { callee := .builtin .append, args := #[x, y], argTypes := ats }) s args l := by
  unfold pAppend at h
  split at h
  · rename_i id kk ev t ti hats
    have e0 : ats = #[t, ti] := by apply Array.ext'; rw [hats]
    subst e0
    split at h
    · rename_i e k e' n k' g kt h1 h2 h3
      split at h
      · rename_i i hi
        split at h
        · rename_i hc
          simp only [Bool.and_eq_true] at hc
          have := Nat.eq_of_beq_eq_true hc.1
          subst this
          have := kindEq_eq hc.2
          subst this
          cases h
          exact oneN_ok fun hn => eff_appendMake h1 h3 hi rfl h2 hf hn.1 hn.2.1 hn.2.2
        · cases h
      · cases h
    · cases h
  · rename_i id l2 t t' _ hats
    split at h
    · rename_i hc
      have := Nat.eq_of_beq_eq_true hc
      subst this
      have e0 : ats = #[t, t] := by apply Array.ext'; rw [hats]
      subst e0
      split at h
      · rename_i e stride bytes e' n cols id2 m cols2 nd h1 h2 h3
        split at h
        · rename_i hb
          simp only [Bool.and_eq_true, Bool.not_eq_true'] at hb
          have hne : id ≠ id2 := fun e => by
            have h2 := hb.1.1.1
            rw [e, Nat.beq_refl] at h2; cases h2
          have := Nat.eq_of_beq_eq_true hb.1.1.2
          subst this
          split at h
          · rename_i cols' ha
            cases h
            refine ⟨_, List.mem_singleton.2 rfl, trivial, fun hn => ?_⟩
            obtain ⟨n1, n2⟩ := and2_ok hn
            exact eff_append h1 (Nat.eq_of_beq_eq_true hb.1.2) h2 h3 n1 hne hf ha hb.2 n2
          · cases h
        · cases h
      · cases h
    · cases h
  · rename_i l2 t t' hats
    split at h
    · rename_i hc
      have := Nat.eq_of_beq_eq_true hc
      subst this
      have e0 : ats = #[t, t] := by apply Array.ext'; rw [hats]
      subst e0
      split at h
      · rename_i e stride bytes id2 m cols2 nd h1 h3
        split at h
        · rename_i hb
          simp only [Bool.and_eq_true] at hb
          split at h
          · rename_i cols' ha
            cases h
            refine ⟨_, List.mem_singleton.2 rfl, trivial, fun hn => ?_⟩
            obtain ⟨n1, n2⟩ := and2_ok hn
            exact eff_appendNil h1 (Nat.eq_of_beq_eq_true hb.1) h3 n1 hf ha hb.2 n2
          · cases h
        · cases h
      · cases h
    · cases h
  · cases h
def pCopy (P : Program) (ats : Array TypeId) (s : S) (args : List V) : Option (List Path) := match args, ats.toList with
  | [.val (.one (.fsub hid b lo n)), .val (.one l2)], [dT, _] => (match P.underlying dT with
    | some (.slice el) => (match tySize P el, s.blk hid, srcOf s l2 with
      | some 1, some (.fam true e k len dom g), some (id2, m, [.ints k' g2], nd) => if kindEq k k' then some [⟨none, and2 nd (some (dom b = true ∧ lo + n ≤ len b)), .det ⟨.val (.one (.int .i64 (.tm (Nat.min m n : Nat)))), [id2], [(hid, some (.fam true e k len dom (cpB g b lo (Nat.min m n) g2)))]⟩⟩] else none
      | _, _, _ => none)
    | _ => none)
  | _, _ => none
theorem pCopy_ok {x y : Operand} {ats : Array TypeId} {s : S} {args : List V} {l : List Path} (h : pCopy P ats s args = some l) : PathsOk P X (.call { callee := .builtin .copy, args := #[x, y], argTypes := ats }) s args l := by
  unfold pCopy at h
  split at h
  · rename_i hid b lo n l2 dT sT hats
    have e0 : ats = #[dT, sT] := by apply Array.ext'; rw [hats]
    subst e0
    split at h
    · rename_i el hu
      split at h
      · rename_i e k len dom g id2 m k' g2 nd hs1 hs h2
        split at h
        · rename_i hk
          have := kindEq_eq hk
          subst this
          cases h
          refine ⟨_, List.mem_singleton.2 rfl, trivial, fun hn => ?_⟩
          obtain ⟨n1, n2, n3⟩ := and2_ok hn
          exact eff_copy hu hs1 hs n2 n3 h2 n1
        · cases h
      · cases h
    · cases h
  · cases h
def pMinMax (mx : Bool) (args : List V) : Option (List Path) := match args with
  | [.val (.one (.int k a)), .val (.one (.int _ b))] => some (one1 (.val (.one (.int k (if mx then moreN a b else lessN a b)))))
  | _ => none
def pSlice (P : Program) (t : TypeId) (lo hi mx : Option Operand) (s : S) (args : List V) : Option (List Path) := match lo, hi, mx, args, P.underlying t with
  | some _, none, none, [.val (.one (.vec id)), .val (.one (.int _ e))], some (.slice el) => (match tySize P el, s.blk id with
    | some n, some (.vec _ _ m _) => some (oneN (0 ≤ e.v ∧ e.v ≤ m) ⟨.val (.one (.sub id n e.v.toNat (m - e.v.toNat))), [id], []⟩)
    | _, _ => none)
  | none, some _, none, [.val (.one (.vec id)), .val (.one (.int _ e))], some (.slice el) => (match tySize P el, s.blk id with
    | some n, some (.vec _ _ m _) => some (oneN (0 ≤ e.v ∧ e.v ≤ m) ⟨.val (.one (.sub id n 0 (e.v.toNat - 0))), [id], []⟩)
    | _, _ => none)
  | some _, some _, none, [.val (.one (.vec id)), .val (.one (.int _ e)), .val (.one (.int _ f))], some (.slice el) => (match tySize P el, s.blk id with
    | some n, some (.vec _ _ m _) => some (oneN (0 ≤ e.v ∧ e.v ≤ f.v ∧ f.v ≤ m) ⟨.val (.one (.sub id n e.v.toNat (f.v.toNat - e.v.toNat))), [id], []⟩)
    | _, _ => none)
  | lo, hi, none, .val (.one (.fptr hid b 0)) :: vs, some (.array m el) => (match tySize P el, bnd m lo hi vs with
    | some 1, some (l, h, nd) => some (oneN nd ⟨.val (.one (.fsub hid b l (h - l))), [], []⟩)
    | _, _ => none)
  | lo, hi, none, .val (.one (.fsub hid b s0 m)) :: vs, some (.slice el) => (match tySize P el, bnd m lo hi vs with
    | some 1, some (l, h, nd) => some (oneN nd ⟨.val (.one (.fsub hid b (s0 + l) (h - l))), [], []⟩)
    | _, _ => none)
  | lo, hi, none, .val (.one (.sub id st s0 m)) :: vs, some (.slice el) => (match tySize P el, bnd m lo hi vs with
    | some n, some (l, h, nd) => if Nat.beq n st then some (oneN nd ⟨.val (.one (.sub id n (s0 + l) (h - l))), [], []⟩) else none
    | _, _ => none)
  | _, _, _, _, _ => none
theorem pSlice_ok {t : TypeId} {x : Operand} {lo hi mx : Option Operand} {s : S} {args : List V} {l : List Path} (h : pSlice P t lo hi mx s args = some l) : PathsOk P X (.slice t x lo hi mx) s args l := by
  have num : ∀ {β : Bm} {ρ : Operand → Value} {y : Operand} {k : IntKind} {e : N} {d : Nat}, (L.int k e).rel β (ρ y) → 0 ≤ e.v → boundIs (some (ρ y)) d e.v.toNat := by
    intro β ρ y k e d hr h0
    have hr : ρ y = .int k e.v := hr
    exact .inr ⟨k, by rw [hr]; congr 2; omega⟩
  unfold pSlice at h
  split at h
  · rename_i y id k e el hu
    split at h
    · rename_i n own ety m cols hn hb
      cases h
      refine oneN_ok fun hc => (reads_part (h := m) hu hn (fun β ρ hr => ?_) (by omega) (Nat.le_refl _)).eff hb
      exact ⟨num (β := β) hr.1 hc.1, .inl ⟨rfl, rfl⟩⟩
    · cases h
  · rename_i y id k e el hu
    split at h
    · rename_i n own ety m cols hn hb
      cases h
      refine oneN_ok fun hc => (reads_part (l := 0) hu hn (fun β ρ hr => ?_) (Nat.zero_le _) (by omega)).eff hb
      exact ⟨.inl ⟨rfl, rfl⟩, num (β := β) hr.1 hc.1⟩
    · cases h
  · rename_i y z id k e k' f el hu
    split at h
    · rename_i n own ety m cols hn hb
      cases h
      refine oneN_ok fun hc => (reads_part hu hn (fun β ρ hr => ?_) (by omega) (by omega)).eff hb
      exact ⟨num (β := β) hr.1 hc.1, num (β := β) hr.2.1 (by omega)⟩
    · cases h
  · rename_i lo hi hid b vs m el hu
    split at h
    · rename_i l h nd hn hb
      cases h
      exact oneN_ok fun hc => (gives_sliceFptr hu hn hb hc).eff s
    · cases h
  · rename_i lo hi hid b s0 m vs el hu
    split at h
    · rename_i l h nd hn hb
      cases h
      exact oneN_ok fun hc => (gives_sliceFsub hu hn hb hc).eff s
    · cases h
  · rename_i lo hi id st s0 m vs el hu
    split at h
    · rename_i n l h nd hn hb
      split at h
      · rename_i hst
        have := Nat.eq_of_beq_eq_true hst
        subst this
        cases h
        exact oneN_ok fun hc => (gives_sliceSub hu hn hb hc).eff s
      · cases h
    · cases h
  · cases h

theorem run_equal_if {t : TypeId} {ms : Array (String × TypeId)} (ht : P.underlying t = some (.interface ms)) (u : TypeId) (v : Value) (w : World) : (Op.equal t (.iface u v) .nilIface).run P w = .ok false w := by
  unfold Op.equal Op.maxDepth
  rw [show (10000 : Nat) = 9999 + 1 from rfl]
  unfold Op.equalIn
  simp only [Sem.run_bind, run_under ht, Result.andThen_ok, Sem.run_pure]
theorem run_equal_nil {t : TypeId} {ms : Array (String × TypeId)} (ht : P.underlying t = some (.interface ms)) (w : World) : (Op.equal t .nilIface .nilIface).run P w = .ok true w := by
  unfold Op.equal Op.maxDepth
  rw [show (10000 : Nat) = 9999 + 1 from rfl]
  unfold Op.equalIn
  simp only [Sem.run_bind, run_under ht, Result.andThen_ok, Sem.run_pure]
def isConst : Operand → Bool
  | .const _ => true
  | _ => false
def pIfNil (P : Program) (op : BinOp) (t : TypeId) (y : Operand) (args : List V) : Option (List Path) := match args, P.underlying t with
  | [.val (.one (.ifp _ _ _)), .val (.one (.cst .nilIface))], some (.interface _) => (match op with
    | .eql => some (one1 (.val (.one (.bool (.lit false)))))
    | .neq => some (one1 (.val (.one (.bool (.lit true)))))
    | _ => none)
  | [.val (.one (.cst .nilIface)), .val (.one (.cst .nilIface))], some (.interface _) => if isConst y then (match op with
    | .eql => some (one1 (.val (.one (.bool (.lit true)))))
    | .neq => some (one1 (.val (.one (.bool (.lit false)))))
    | _ => none) else none
  | _, _ => none
theorem gives_ifNil {op : BinOp} {t yt : TypeId} {x y : Operand} {u : TypeId} {id off : Nat} {b : Bool} {ms : Array (String × TypeId)} (ht : P.underlying t = some (.interface ms)) (hop : op = .eql ∧ b = false ∨ op = .neq ∧ b = true) :
    Gives P (.binOp op t x y yt) [.val (.one (.ifp u id off)), .val (.one (.cst .nilIface))] (.val (.one (.bool (.lit b)))) := by
  intro β ρ o ho hr
  obtain ⟨dst, op', type, pos, after, guard⟩ := o; simp only at ho; subst ho
  obtain ⟨⟨a, _, hx⟩, hy, _⟩ := hr
  have hy : ρ y = .nilIface := hy
  refine ⟨.bool b, rfl, fun w => ?_⟩
  rcases hop with ⟨rfl, rfl⟩ | ⟨rfl, rfl⟩
  · simp [execOp, eqGuard, binOp, hx, hy, run_equal_if ht]
  · simp [execOp, eqGuard, binOp, hx, hy, run_equal_if ht]
theorem gives_nilIf {op : BinOp} {t yt : TypeId} {x y : Operand} {b : Bool} {ms : Array (String × TypeId)} (hc : isConst y = true) (ht : P.underlying t = some (.interface ms)) (hop : op = .eql ∧ b = true ∨ op = .neq ∧ b = false) :
    Gives P (.binOp op t x y yt) [.val (.one (.cst .nilIface)), .val (.one (.cst .nilIface))] (.val (.one (.bool (.lit b)))) := by
  intro β ρ o ho hr
  obtain ⟨dst, op', type, pos, after, guard⟩ := o; simp only at ho; subst ho
  obtain ⟨hx, hy, _⟩ := hr
  have hx : ρ x = .nilIface := hx
  have hy : ρ y = .nilIface := hy
  cases y with
  | const c =>
    refine ⟨.bool b, rfl, fun w => ?_⟩
    rcases hop with ⟨rfl, rfl⟩ | ⟨rfl, rfl⟩
    · simp [execOp, eqGuard, binOp, hx, hy, run_equal_nil ht]
    · simp [execOp, eqGuard, binOp, hx, hy, run_equal_nil ht]
  | _ => cases hc
theorem pIfNil_ok {op : BinOp} {t yt : TypeId} {x y : Operand} {s : S} {args : List V} {l : List Path} (h : pIfNil P op t y args = some l) : PathsOk P X (.binOp op t x y yt) s args l := by
  unfold pIfNil at h
  split at h
  · rename_i ht
    split at h
    · cases h; exact one1_ok (gives_ifNil ht (.inl ⟨rfl, rfl⟩))
    · cases h; exact one1_ok (gives_ifNil ht (.inr ⟨rfl, rfl⟩))
    · cases h
  · rename_i ht
    split at h
    · rename_i hc
      split at h
      · cases h; exact one1_ok (gives_nilIf hc ht (.inl ⟨rfl, rfl⟩))
      · cases h; exact one1_ok (gives_nilIf hc ht (.inr ⟨rfl, rfl⟩))
      · cases h
    · cases h
  · cases h
structure CallH where
  at_ : FuncId → List V → S → Nat → Option (List Path)
  fam : TypeId → Bool
def Enters (P : Program) (cl : Call) (vs : List V) (f : FuncId) (args : List V) : Prop := ∀ (β : Bm) (ρ : Operand → Value), All2 (V.rel β) vs ((Op.call cl).operands.toList.map ρ) →
  ∃ xs : List Value, All2 (V.rel β) args xs ∧ ∀ (dst : Option Nat) (type : TypeId) (pos : String) (after : Array Edge) (guard : Option (Nat × Bool)) (w : World), (execOp ρ ⟨dst, .call cl, type, pos, after, guard⟩).run P w = (callFunc f xs.toArray).run P w
def CallHOk (P : Program) (X : Cx) (call : CallH) : Prop :=
  ∀ f args s fresh l, call.at_ f args s fresh = some l → (∀ i, fresh ≤ i → s.blk i = none) → ∀ (c : Call) (vs : List V), Enters P c vs f args → PathsOk P X (.call c) s vs l
theorem enters_value {x : Operand} {cargs : Array Operand} {ats : Array TypeId} {f : FuncId} {args : List V} : Enters P ⟨.value x, cargs, ats⟩ (.val (.one (.cst (.func (.func f) #[] #[]))) :: args) f args := by
  intro β ρ h
  have e0 : (Op.call ⟨.value x, cargs, ats⟩).operands.toList = x :: cargs.toList := by simp [Op.operands, Call.operands]
  rw [e0] at h
  obtain ⟨hx, h⟩ := h
  have hx : ρ x = .func (.func f) #[] #[] := hx
  refine ⟨cargs.toList.map ρ, h, fun dst type pos after guard w => ?_⟩
  have e : cargs.map ρ = (cargs.toList.map ρ).toArray := by apply Array.ext'; simp
  simp only [execOp, resolve, Deferred.ofValue, hx, Sem.run_bind, Sem.run_pure, Result.andThen_ok, invoke, Array.empty_append, Array.append_empty, e]
theorem caps_all {β : Bm} : ∀ {ps : List (Nat × Nat)} {xs : List Value}, capsRel β ps xs → All2 (V.rel β) (ps.map fun p => .val (.one (.ptr p.1 p.2))) xs
  | [], [], _ => trivial
  | _ :: _, _ :: _, ⟨h1, h2⟩ => ⟨h1, caps_all h2⟩
  | [], _ :: _, h => h.elim
  | _ :: _, [], h => h.elim
theorem all2_app {α β : Type} {R : α → β → Prop} : ∀ {a c : List α} {b d : List β}, All2 R a b → All2 R c d → All2 R (a ++ c) (b ++ d)
  | [], _, [], _, _, h => h
  | _ :: _, _, _ :: _, _, ⟨h1, h2⟩, h => ⟨h1, all2_app h2 h⟩
  | [], _, _ :: _, _, h, _ => h.elim
  | _ :: _, _, [], _, h, _ => h.elim
theorem enters_clo {x : Operand} {cargs : Array Operand} {ats : Array TypeId} {f : FuncId} {caps : List (Nat × Nat)} {args : List V} : Enters P ⟨.value x, cargs, ats⟩ (.val (.one (.clo f caps)) :: args) f (args ++ caps.map fun p => .val (.one (.ptr p.1 p.2))) := by
  intro β ρ h
  have e0 : (Op.call ⟨.value x, cargs, ats⟩).operands.toList = x :: cargs.toList := by simp [Op.operands, Call.operands]
  rw [e0] at h
  obtain ⟨⟨ys, hx, hc⟩, h⟩ := h
  have hx : ρ x = .func (.func f) #[] ys := hx
  refine ⟨cargs.toList.map ρ ++ ys.toList, all2_app h (caps_all hc), fun dst type pos after guard w => ?_⟩
  have e : cargs.map ρ ++ ys = (cargs.toList.map ρ ++ ys.toList).toArray := by apply Array.ext'; simp
  simp only [execOp, resolve, Deferred.ofValue, hx, Sem.run_bind, Sem.run_pure, Result.andThen_ok, invoke, Array.empty_append, e]
def methodAt (P : Program) (t : TypeId) (name : String) : Option FuncId := match P.info? t with
  | some i => (match i.methods.find? (·.name == name) with
    | some m => if m.path.isEmpty then (match m.func, P.underlying t with
      | some (f, true), some (.pointer _) => some f
      | _, _ => none) else none
    | none => none)
  | none => none
theorem enters_invoke {x : Operand} {name : String} {cargs : Array Operand} {ats : Array TypeId} {t : TypeId} {id off : Nat} {f : FuncId} {args : List V} (hm : methodAt P t name = some f) :
    Enters P ⟨.invoke x name, cargs, ats⟩ (.val (.one (.ifp t id off)) :: args) f (.val (.one (.ptr id off)) :: args) := by
  intro β ρ h
  have e0 : (Op.call ⟨.invoke x name, cargs, ats⟩).operands.toList = x :: cargs.toList := by simp [Op.operands, Call.operands]
  rw [e0] at h
  obtain ⟨⟨b, hb, hx⟩, h⟩ := h
  have hx : ρ x = .iface t (.pointer (some ⟨b, off, none⟩)) := hx
  unfold methodAt at hm
  split at hm
  · rename_i i hi
    split at hm
    · rename_i m hfind
      split at hm
      · rename_i hp
        split at hm
        · rename_i f' e hf hu
          cases hm
          have hp : m.path = #[] := by simpa using hp
          refine ⟨.pointer (some ⟨b, off, none⟩) :: cargs.toList.map ρ, ⟨⟨b, hb, rfl⟩, h⟩, fun dst type pos after guard w => ?_⟩
          have e1 : #[Value.pointer (some ⟨b, off, none⟩)] ++ (#[ρ x] ++ cargs.map ρ).extract 1 (#[ρ x] ++ cargs.map ρ).size = (Value.pointer (some ⟨b, off, none⟩) :: cargs.toList.map ρ).toArray := by
            apply Array.ext'; simp
            exact List.take_of_length_le (by simp)
          have e2 : (#[ρ x] ++ cargs.map ρ)[0]? = some (ρ x) := by rw [Array.getElem?_append_left (by simp)]; rfl
          have e3 : P.types.size + Made.depth = (P.types.size + (Made.depth - 1)) + 1 := by
            have h0 : 0 < Made.depth := by decide
            omega
          have hmeth : (method (P.types.size + Made.depth) t (.pointer (some ⟨b, off, none⟩)) name).run P w = .ok (f, .pointer (some ⟨b, off, none⟩)) w := by
            rw [e3]
            unfold method
            simp [typeInfo, hi, hfind, hp, follow, hf, receiverAt, run_underlying hu, Place.get]
          simp only [execOp, resolve, Sem.run_bind, Sem.run_pure, Result.andThen_ok, invoke, e2]
          rw [hx] at e1 ⊢
          simp only [callMethod, Sem.run_bind, run_program, Result.andThen_ok, hmeth, e1]
        · cases hm
      · cases hm
    · cases hm
  · cases hm
def pIface (P : Program) (t : TypeId) (args : List V) : Option (List Path) := match args, P.underlying t with
  | [.val (.one (.ptr id off))], some (.pointer _) => some (one1 (.val (.one (.ifp t id off))))
  | _, _ => none
theorem pIface_ok {t : TypeId} {x : Operand} {s : S} {args : List V} {l : List Path} (h : pIface P t args = some l) : PathsOk P X (.makeInterface t x) s args l := by
  unfold pIface at h
  split at h
  · rename_i id off e hu
    cases h
    refine one1_ok fun β ρ o ho hr => ?_
    obtain ⟨dst, op, type, pos, after, guard⟩ := o; simp only at ho; subst ho
    obtain ⟨⟨b, hb, hx⟩, _⟩ := hr
    refine ⟨_, ⟨b, hb, rfl⟩, fun w => ?_⟩
    simp only [execOp, Instr.makeInterface, hx, Sem.run_bind, run_under hu, Result.andThen_ok, Sem.run_pure]
  · cases h
def capsOf : List V → Option (List (Nat × Nat))
  | [] => some []
  | .val (.one (.ptr id off)) :: r => (match capsOf r with
    | some l => some ((id, off) :: l)
    | none => none)
  | _ => none
theorem capsOf_ok {β : Bm} : ∀ {vs : List V} {l : List (Nat × Nat)} {xs : List Value}, capsOf vs = some l → All2 (V.rel β) vs xs → capsRel β l xs
  | [], l, xs, h, hx => by
    cases h
    cases xs with
    | nil => trivial
    | cons _ _ => exact hx.elim
  | v :: r, l, xs, h, hx => by
    unfold capsOf at h
    split at h
    · rename_i h0; cases h0
    · rename_i id off r' h0
      cases h0
      split at h
      · rename_i l' hl
        cases h
        cases xs with
        | nil => exact hx.elim
        | cons x xs => exact ⟨hx.1, capsOf_ok hl hx.2⟩
      · cases h
    · cases h
def pFunc (fn : Fn) (first : Array Operand) (args : List V) : Option (List Path) := match fn, first.toList, capsOf args with
  | .func f, [], some caps => some (one1 (.val (.one (.clo f caps))))
  | _, _, _ => none
theorem pFunc_ok {fn : Fn} {first captured : Array Operand} {s : S} {args : List V} {l : List Path} (h : pFunc fn first args = some l) : PathsOk P X (.makeFunc fn first captured) s args l := by
  unfold pFunc at h
  split at h
  · rename_i f caps hf hc
    cases h
    have hf : first = #[] := by apply Array.ext'; rw [hf]
    subst hf
    refine one1_ok fun β ρ o ho hr => ?_
    obtain ⟨dst, op, type, pos, after, guard⟩ := o; simp only at ho; subst ho
    have e0 : (Op.makeFunc (.func f) #[] captured).operands.toList = captured.toList := by simp [Op.operands]
    rw [e0] at hr
    refine ⟨.func (.func f) #[] (captured.map ρ), ⟨_, rfl, by simpa using capsOf_ok hc hr⟩, fun w => ?_⟩
    simp [execOp, Instr.makeFunc]
  · cases h
def effs (P : Program) (call : CallH) (op : Op) (args : List V) (s : S) (fresh : Nat) : Option (List Path) := match op with
  | .move _ => (match args with | [v] => some (one1 v) | _ => none)
  | .assign _ => (match args with | [v] => some (one1 v) | _ => none)
  | .pick _ _ _ => pPick args
  | .alloc t => if call.fam t then pAllocF P t s fresh args else pAlloc P t fresh args
  | .box t _ => if call.fam t then pBoxF t s fresh args else pBox P t fresh args
  | .makeSlice t _ _ => if call.fam t then pMakeF P t s fresh args else pMake P t fresh args
  | .build t parts => (match args with
    | [] => (match pBuildZ P t parts.toList with
      | some l => some l
      | none => pBuild P t parts args)
    | _ => pBuild P t parts args)
  | .buildSlice t len parts => pSliceB P t len parts fresh args
  | .load t _ => pLoad P t s args
  | .store t _ _ => pStore P t s args
  | .nilCheck _ => pNil args
  | .binOp o t _ y _ => (match pIfNil P o t y args with
    | some l => some l
    | none => pBin P o t args)
  | .unOp o _ _ => pUn o args
  | .convert a d _ => pConv P a d args
  | .fieldAddr t _ f => pFieldAddr P t f args
  | .field t _ f => pField P t f args
  | .indexAddr t _ _ => pIndexAddr P t s args
  | .index t _ _ => pIndex P t args
  | .lookup t _ _ ok => pLookup P t ok s args
  | .mapUpdate t _ _ _ => pUpdate P t s args
  | .makeMap t none => pMakeMap P t fresh args
  | .extract _ i => pExtract i args
  | .slice t _ lo hi mx => pSlice P t lo hi mx s args
  | .call c => (match c.callee with
    | .builtin .len => (match c.args.toList with | [_] => pLen P c.argTypes s args | _ => none)
    | .builtin .delete => (match c.args.toList with | [_, _] => pDelete P c.argTypes s args | _ => none)
    | .builtin .append => (match c.args.toList with | [_, _] => pAppend P c.argTypes s fresh args | _ => none)
    | .builtin .copy => (match c.args.toList with | [_, _] => pCopy P c.argTypes s args | _ => none)
    | .builtin .min => (match c.args.toList with | [_, _] => pMinMax false args | _ => none)
    | .builtin .max => (match c.args.toList with | [_, _] => pMinMax true args | _ => none)
    | .value _ => (match args with
      | .val (.one (.cst (.func (.func f) a b))) :: as => if a.size = 0 ∧ b.size = 0 then call.at_ f as s fresh else none
      | .val (.one (.clo f caps)) :: as => call.at_ f (as ++ caps.map fun p => .val (.one (.ptr p.1 p.2))) s fresh
      | _ => none)
    | .invoke _ name => (match args with
      | .val (.one (.ifp t id off)) :: as => (match methodAt P t name with
        | some f => call.at_ f (.val (.one (.ptr id off)) :: as) s fresh
        | none => none)
      | _ => none)
    | _ => none)
  | .makeInterface t _ => pIface P t args
  | .makeFunc fn first _ => pFunc fn first args
  | _ => none
theorem effs_ok {call : CallH} (hcall : CallHOk P X call) {op : Op} {args : List V} {s : S} {fresh : Nat} (hf : ∀ i, fresh ≤ i → s.blk i = none) {l : List Path} (h : effs P call op args s fresh = some l) : PathsOk P X op s args l := by
  have hf0 := hf fresh (Nat.le_refl _)
  unfold effs at h
  split at h
  · split at h
    · cases h; exact one1_ok (gives_move _ _)
    · cases h
  · split at h
    · cases h; exact one1_ok (gives_assign _ _)
    · cases h
  · exact pPick_ok h
  · split at h
    · exact pAllocF_ok hf0 h
    · exact pAlloc_ok hf0 h
  · split at h
    · exact pBoxF_ok hf0 h
    · exact pBox_ok hf0 h
  · split at h
    · exact pMakeF_ok hf0 h
    · exact pMake_ok hf0 h
  · split at h
    · split at h
      · rename_i hz; cases h; exact pBuildZ_ok hz
      · exact pBuild_ok h
    · exact pBuild_ok h
  · exact pSliceB_ok hf0 h
  · exact pLoad_ok h
  · exact pStore_ok h
  · exact pNil_ok h
  · split at h
    · rename_i hz; cases h; exact pIfNil_ok hz
    · exact pBin_ok h
  · exact pUn_ok h
  · exact pConv_ok h
  · exact pFieldAddr_ok h
  · exact pField_ok h
  · exact pIndexAddr_ok h
  · exact pIndex_ok h
  · exact pLookup_ok h
  · exact pUpdate_ok h
  · exact pMakeMap_ok hf0 h
  · exact pExtract_ok h
  · exact pSlice_ok h
  · rename_i c
    obtain ⟨callee, cargs, ats⟩ := c
    simp only at h
    split at h
    · split at h
      · rename_i x hx
        have e : cargs = #[x] := by apply Array.ext'; rw [hx]
        subst e; exact pLen_ok h
      · cases h
    · split at h
      · rename_i x y hx
        have e : cargs = #[x, y] := by apply Array.ext'; rw [hx]
        subst e; exact pDelete_ok h
      · cases h
    · split at h
      · rename_i x y hx
        have e : cargs = #[x, y] := by apply Array.ext'; rw [hx]
        subst e; exact pAppend_ok hf0 h
      · cases h
    · split at h
      · rename_i x y hx
        have e : cargs = #[x, y] := by apply Array.ext'; rw [hx]
        subst e; exact pCopy_ok h
      · cases h
    · split at h
      · rename_i x y hx
        have e : cargs = #[x, y] := by apply Array.ext'; rw [hx]
        subst e
        unfold pMinMax at h
        split at h
        · cases h; exact one1_ok gives_min
        · cases h
      · cases h
    · split at h
      · rename_i x y hx
        have e : cargs = #[x, y] := by apply Array.ext'; rw [hx]
        subst e
        unfold pMinMax at h
        split at h
        · cases h; exact one1_ok gives_max
        · cases h
      · cases h
    · rename_i x
      split at h
      · split at h
        · rename_i f a b as hab
          have e1 : a = #[] := Array.eq_empty_of_size_eq_zero hab.1
          have e2 : b = #[] := Array.eq_empty_of_size_eq_zero hab.2
          subst e1; subst e2
          exact hcall _ _ _ _ _ h hf _ _ enters_value
        · cases h
      · exact hcall _ _ _ _ _ h hf _ _ enters_clo
      · cases h
    · split at h
      · split at h
        · rename_i hm; exact hcall _ _ _ _ _ h hf _ _ (enters_invoke hm)
        · cases h
      · cases h
    · cases h
  · exact pIface_ok h
  · exact pFunc_ok h
  · cases h
end
end Go.Proofs.YtpdijogpbnaplaaDoorHz
namespace Go.Proofs.YtpdijogpbnaplaaDoorHz
open Go Go.RowKit
section
variable {P : Program} {X : Cx}

def nilL (P : Program) (t : TypeId) (l : L) : Option Ob := match l with
  | .cst (.slice none 0 0) => (match P.underlying t with
    | some (.slice e) => (match eltCols P e with | some cols => some (.vec true e 0 cols) | none => none)
    | _ => none)
  | _ => none
def isNilV (o : Ob) : Prop := ∃ e cols, o = .vec true e 0 cols
theorem nilL_ok {t : TypeId} {l : L} {o : Ob} (h : nilL P t l = some o) : l = .cst (.slice none 0 0) ∧ isNilV o := by
  unfold nilL at h
  split at h
  · split at h
    · split at h
      · cases h; exact ⟨rfl, _, _, rfl⟩
      · cases h
    · cases h
  · cases h
def nilLs (P : Program) : Nat → List TypeId → List L → List L × List Ob
  | fr, t :: ts, l :: ls => match nilL P t l with
    | some o => (.vec fr :: (nilLs P (fr + 1) ts ls).1, o :: (nilLs P (fr + 1) ts ls).2)
    | none => (l :: (nilLs P fr ts ls).1, (nilLs P fr ts ls).2)
  | _, _, ls => (ls, [])
def nilV (P : Program) (fr : Nat) (t : TypeId) (v : V) : V × List Ob := match v with
  | .val (.one l) => match nilL P t l with
    | some o => (.val (.one (.vec fr)), [o])
    | none => (v, [])
  | .val (.agg ls) => match P.cellTypes P.depth t with
    | some ts => (.val (.agg (nilLs P fr ts ls).1), (nilLs P fr ts ls).2)
    | none => (v, [])
  | v => (v, [])
def nilVs (P : Program) : Nat → List TypeId → List V → List V × List Ob
  | fr, t :: ts, v :: vs => ((nilV P fr t v).1 :: (nilVs P (fr + (nilV P fr t v).2.length) ts vs).1, (nilV P fr t v).2 ++ (nilVs P (fr + (nilV P fr t v).2.length) ts vs).2)
  | _, _, vs => (vs, [])
def nilAt (β : Bm) (fr : Nat) (obs : List Ob) : Prop := ∀ (j : Nat) (o : Ob), obs[j]? = some o → β (fr + j) = some (.val (.slice none 0 0))
theorem nilLs_ok {β β' : Bm} (hle : β.le β') : ∀ {ls : List L} {ts : List TypeId} {fr : Nat} {xs : List Value}, nilAt β' fr (nilLs P fr ts ls).2 → All2 (L.rel β) ls xs → All2 (L.rel β') (nilLs P fr ts ls).1 xs
  | [], ts, fr, [], _, _ => by cases ts <;> trivial
  | l :: ls, [], fr, xs, _, h => by
    unfold nilLs
    exact h.mono (fun l x => L.rel_mono hle l x)
  | l :: ls, t :: ts, fr, x :: xs, hn, h => by
    cases hl : nilL P t l with
    | none =>
      simp only [nilLs, hl] at hn ⊢
      exact ⟨L.rel_mono hle _ _ h.1, nilLs_ok hle hn h.2⟩
    | some o =>
      simp only [nilLs, hl] at hn ⊢
      obtain ⟨rfl, _⟩ := nilL_ok hl
      have h1 : x = .slice none 0 0 := h.1
      refine ⟨⟨by rw [h1]; exact hn 0 o rfl, none, 0, 0, h1⟩, nilLs_ok hle (fun j o' hj => ?_) h.2⟩
      have := hn (j + 1) o' (by simpa using hj)
      rwa [show fr + (j + 1) = fr + 1 + j by omega] at this
  | [], _, _, _ :: _, _, h => h.elim
  | _ :: _, _ :: _, _, [], _, h => h.elim
theorem nilLs_isNil : ∀ {ls : List L} {ts : List TypeId} {fr : Nat}, ∀ o ∈ (nilLs P fr ts ls).2, isNilV o
  | [], ts, fr, o, h => by cases ts <;> cases h
  | l :: ls, [], fr, o, h => by cases h
  | l :: ls, t :: ts, fr, o, h => by
    cases hl : nilL P t l with
    | none => simp only [nilLs, hl] at h; exact nilLs_isNil o h
    | some o' =>
      simp only [nilLs, hl, List.mem_cons] at h
      rcases h with rfl | h
      · exact (nilL_ok hl).2
      · exact nilLs_isNil o h
theorem nilV_ok {β β' : Bm} (hle : β.le β') {v : V} {t : TypeId} {fr : Nat} {x : Value} (hn : nilAt β' fr (nilV P fr t v).2) (h : v.rel β x) : (nilV P fr t v).1.rel β' x := by
  unfold nilV at hn ⊢
  split
  · rename_i l
    cases hl : nilL P t l with
    | none => exact V.rel_mono hle _ _ h
    | some o =>
      simp only [hl] at hn
      obtain ⟨rfl, _⟩ := nilL_ok hl
      have h1 : x = .slice none 0 0 := h
      exact ⟨by rw [h1]; exact hn 0 o rfl, none, 0, 0, h1⟩
  · rename_i ls
    cases hl : P.cellTypes P.depth t with
    | none => exact V.rel_mono hle _ _ h
    | some ts =>
      simp only [hl] at hn
      obtain ⟨cs, h1, h2⟩ := h
      exact ⟨cs, h1, nilLs_ok hle hn h2⟩
  · exact V.rel_mono hle _ _ h
theorem nilV_isNil {v : V} {t : TypeId} {fr : Nat} : ∀ o ∈ (nilV P fr t v).2, isNilV o := by
  intro o h
  unfold nilV at h
  split at h
  · rename_i l
    cases hl : nilL P t l with
    | none => simp only [hl] at h; cases h
    | some o' =>
      simp only [hl, List.mem_singleton] at h
      subst h; exact (nilL_ok hl).2
  · rename_i ls
    cases hl : P.cellTypes P.depth t with
    | none => simp only [hl] at h; cases h
    | some ts => simp only [hl] at h; exact nilLs_isNil o h
  · cases h
theorem nilVs_ok {β β' : Bm} (hle : β.le β') : ∀ {vs : List V} {ts : List TypeId} {fr : Nat} {xs : List Value}, nilAt β' fr (nilVs P fr ts vs).2 → All2 (V.rel β) vs xs → All2 (V.rel β') (nilVs P fr ts vs).1 xs
  | [], ts, fr, [], _, _ => by cases ts <;> trivial
  | v :: vs, [], fr, xs, _, h => by
    unfold nilVs
    exact h.mono (fun l x => V.rel_mono hle l x)
  | v :: vs, t :: ts, fr, x :: xs, hn, h => by
    simp only [nilVs] at hn ⊢
    refine ⟨nilV_ok hle (fun j o hj => hn j o ?_) h.1, nilVs_ok hle (fun j o hj => ?_) h.2⟩
    · rw [List.getElem?_append_left (List.getElem?_eq_some_iff.1 hj).1]; exact hj
    · have := hn ((nilV P fr t v).2.length + j) o (by rw [List.getElem?_append_right (by omega)]; simpa using hj)
      rwa [← Nat.add_assoc] at this
  | [], _, _, _ :: _, _, h => h.elim
  | _ :: _, _ :: _, _, [], _, h => h.elim
theorem nilVs_isNil : ∀ {vs : List V} {ts : List TypeId} {fr : Nat}, ∀ o ∈ (nilVs P fr ts vs).2, isNilV o
  | [], ts, fr, o, h => by cases ts <;> cases h
  | v :: vs, [], fr, o, h => by cases h
  | v :: vs, t :: ts, fr, o, h => by
    simp only [nilVs, List.mem_append] at h
    rcases h with h | h
    · exact nilV_isNil o h
    · exact nilVs_isNil o h
def nilArgs (P : Program) (op : Op) (ty : TypeId) (args : List V) (fr : Nat) : List V × List Ob := match op, args with
  | .assign _, [v] => ([(nilV P fr ty v).1], (nilV P fr ty v).2)
  | .store t _ _, [a, v] => ([a, (nilV P fr t v).1], (nilV P fr t v).2)
  | .box t _, [v] => ([(nilV P fr t v).1], (nilV P fr t v).2)
  | .call c, f :: as => (match c.callee with
    | .value _ => (f :: (nilVs P fr c.argTypes.toList as).1, (nilVs P fr c.argTypes.toList as).2)
    | _ => (f :: as, []))
  | _, args => (args, [])
theorem nilArgs_ok {β β' : Bm} (hle : β.le β') {op : Op} {ty : TypeId} {args : List V} {fr : Nat} {xs : List Value} (hn : nilAt β' fr (nilArgs P op ty args fr).2) (h : All2 (V.rel β) args xs) : All2 (V.rel β') (nilArgs P op ty args fr).1 xs := by
  unfold nilArgs at hn ⊢
  split
  · cases xs with
    | nil => exact h.elim
    | cons x xs => exact ⟨nilV_ok hle hn h.1, h.2.mono (fun l x => V.rel_mono hle l x)⟩
  · cases xs with
    | nil => exact h.elim
    | cons x xs => cases xs with
      | nil => exact h.2.elim
      | cons y xs => exact ⟨V.rel_mono hle _ _ h.1, nilV_ok hle hn h.2.1, h.2.2.mono (fun l x => V.rel_mono hle l x)⟩
  · cases xs with
    | nil => exact h.elim
    | cons x xs => exact ⟨nilV_ok hle hn h.1, h.2.mono (fun l x => V.rel_mono hle l x)⟩
  · rename_i c f as
    cases hc : c.callee with
    | value y =>
      simp only [hc] at hn ⊢
      cases xs with
      | nil => exact h.elim
      | cons x xs => exact ⟨V.rel_mono hle _ _ h.1, nilVs_ok hle hn h.2⟩
    | _ => exact h.mono (fun l x => V.rel_mono hle l x)
  · exact h.mono (fun l x => V.rel_mono hle l x)
theorem nilArgs_isNil {op : Op} {ty : TypeId} {args : List V} {fr : Nat} : ∀ o ∈ (nilArgs P op ty args fr).2, isNilV o := by
  intro o h
  unfold nilArgs at h
  split at h
  · exact nilV_isNil o h
  · exact nilV_isNil o h
  · exact nilV_isNil o h
  · rename_i c f as
    cases hc : c.callee with
    | value y => simp only [hc] at h; exact nilVs_isNil o h
    | _ => simp only [hc] at h; cases h
  · cases h
def nilW : Nat → List Ob → List (Nat × Option Ob)
  | _, [] => []
  | fr, o :: os => (fr, some o) :: nilW (fr + 1) os
theorem nilW_look : ∀ {obs : List Ob} {fr i : Nat}, look (nilW fr obs) i = if fr ≤ i then (obs[i - fr]?).map some else none
  | [], fr, i => by simp [nilW, look]
  | o :: os, fr, i => by
    simp only [nilW, look]
    by_cases e : fr = i
    · subst e; simp
    · have hb : Nat.beq fr i = false := by
        cases hb : Nat.beq fr i
        · rfl
        · exact absurd (Nat.eq_of_beq_eq_true hb) e
      rw [hb, nilW_look]
      by_cases h1 : fr ≤ i
      · simp only [Bool.false_eq_true, if_false]
        rw [if_pos (by omega : fr + 1 ≤ i), if_pos h1, show i - fr = (i - (fr + 1)) + 1 by omega]
        simp
      · simp only [Bool.false_eq_true, if_false]
        rw [if_neg (by omega : ¬ fr + 1 ≤ i), if_neg h1]
def addNil (s : S) (fr : Nat) (obs : List Ob) : S := ⟨s.tmp, upd s.blk (look (nilW fr obs))⟩
theorem addNil_cons (s : S) (fr : Nat) (o : Ob) (os : List Ob) : addNil ⟨s.tmp, upd s.blk (look [(fr, some o)])⟩ (fr + 1) os = addNil s fr (o :: os) := by
  unfold addNil
  congr 1
  funext i
  simp only [upd, nilW_look]
  by_cases e : fr = i
  · subst e
    rw [if_neg (by omega), if_pos (Nat.le_refl _)]
    simp [look]
  · have hb : Nat.beq fr i = false := by
      cases hb : Nat.beq fr i
      · rfl
      · exact absurd (Nat.eq_of_beq_eq_true hb) e
    by_cases h1 : fr ≤ i
    · rw [if_pos (by omega : fr + 1 ≤ i), if_pos h1, show i - fr = (i - (fr + 1)) + 1 by omega]
      simp only [List.getElem?_cons_succ, look, hb, Bool.false_eq_true, if_false]
    · rw [if_neg (by omega : ¬ fr + 1 ≤ i), if_neg h1]
      simp only [look, hb, Bool.false_eq_true, if_false]
theorem RepB.nils {D : Dx} {a : Act} {w : World} (hB0 : D.B ≤ w.heap.size) : ∀ {obs : List Ob} {fr : Nat} {s : S} {β : Bm}, RepB X D β s a w → (∀ i, fr ≤ i → i < fr + obs.length → s.blk i = none) → (∀ o ∈ obs, isNilV o) →
    ∃ β', β.le β' ∧ RepB X D β' (addNil s fr obs) a w ∧ nilAt β' fr obs
  | [], fr, s, β, h, _, _ => ⟨β, Bm.le_refl β, h, fun j o hj => by simp at hj⟩
  | o :: os, fr, s, β, h, hf, hn => by
    obtain ⟨e, cols, rfl⟩ := hn o List.mem_cons_self
    obtain ⟨hle, h1⟩ := h.fresh (id := fr) (hf fr (Nat.le_refl _) (by simp)) (o := .vec true e 0 cols) (p := .val (.slice none 0 0)) hB0 (fun b hb => by cases hb) (nil_vec _ w e cols)
    obtain ⟨β', k1, k2, k3⟩ := RepB.nils hB0 (obs := os) (fr := fr + 1) h1 (fun i a b => by
      simp only [upd_one]
      rw [if_neg (by omega)]
      exact hf i (by omega) (by simp; omega)) (fun o ho => hn o (List.mem_cons_of_mem _ ho))
    refine ⟨β', Bm.le_trans hle k1, by rw [← addNil_cons]; exact k2, fun j o' hj => ?_⟩
    cases j with
    | zero => exact k1 _ _ (by simp)
    | succ j =>
      have := k3 j o' (by simpa using hj)
      rwa [show fr + 1 + j = fr + (j + 1) by omega] at this
def joinW (ns ws : List (Nat × Option Ob)) : List (Nat × Option Ob) :=
  ns.map (fun q => match look ws q.1 with | some v => (q.1, v) | none => q) ++ ws.filter (fun q => !ns.any (fun r => Nat.beq r.1 q.1))
theorem look_app {α : Type} : ∀ (a b : List (Nat × α)) (i : Nat), look (a ++ b) i = match look a i with | some v => some v | none => look b i
  | [], b, i => rfl
  | p :: r, b, i => by
    simp only [List.cons_append, look]
    split
    · rfl
    · exact look_app r b i
theorem look_map {ws : List (Nat × Option Ob)} : ∀ (ns : List (Nat × Option Ob)) (i : Nat), look (ns.map (fun q => match look ws q.1 with | some v => (q.1, v) | none => q)) i = match look ns i with
    | some o => some (match look ws i with | some v => v | none => o)
    | none => none
  | [], i => rfl
  | p :: r, i => by
    simp only [List.map_cons]
    by_cases e : p.1 = i
    · subst e
      cases h : look ws p.1 with
      | some v => simp only [look, Nat.beq_refl, if_true, h]
      | none => simp only [look, Nat.beq_refl, if_true, h]
    · have hb : Nat.beq p.1 i = false := by
        cases hb : Nat.beq p.1 i
        · rfl
        · exact absurd (Nat.eq_of_beq_eq_true hb) e
      have := look_map (ws := ws) r i
      cases h : look ws p.1 with
      | some v => simp only [look, hb, Bool.false_eq_true, if_false]; exact this
      | none => simp only [look, hb, Bool.false_eq_true, if_false]; exact this
theorem look_filter {α : Type} {ns : List (Nat × Option Ob)} : ∀ (ws : List (Nat × α)) (i : Nat), look ns i = none → look (ws.filter (fun q => !ns.any (fun r => Nat.beq r.1 q.1))) i = look ws i
  | [], i, _ => rfl
  | p :: r, i, h => by
    have ih := look_filter (ns := ns) r i h
    rw [List.filter_cons]
    by_cases e : p.1 = i
    · subst e
      have hno : ns.any (fun r => Nat.beq r.1 p.1) = false := by
        clear ih
        induction ns with
        | nil => rfl
        | cons q t iht =>
          simp only [look] at h
          split at h
          · cases h
          · rename_i hq
            simp only [List.any_cons, Bool.not_eq_true] at hq ⊢
            rw [hq, iht h]; rfl
      simp only [hno, Bool.not_false, if_true, look, Nat.beq_refl]
    · have hb : Nat.beq p.1 i = false := by
        cases hb : Nat.beq p.1 i
        · rfl
        · exact absurd (Nat.eq_of_beq_eq_true hb) e
      split
      · simp only [look, hb, Bool.false_eq_true, if_false]; exact ih
      · simp only [look, hb, Bool.false_eq_true, if_false]; exact ih
theorem joinW_upd (f : Nat → Option Ob) (ns ws : List (Nat × Option Ob)) : upd (upd f (look ns)) (look ws) = upd f (look (joinW ns ws)) := by
  funext i
  simp only [upd, joinW, look_app, look_map]
  cases h : look ns i with
  | some o =>
    simp only
    cases h2 : look ws i with
    | some v => rfl
    | none => rfl
  | none =>
    simp only [look_filter ws i h]
theorem look_key {α : Type} {ws : List (Nat × α)} {q : Nat × α} (h : q ∈ ws) : look ws q.1 ≠ none := by
  induction ws with
  | nil => cases h
  | cons p r ih =>
    simp only [look]
    split
    · simp
    · rename_i hb
      rcases List.mem_cons.1 h with rfl | h
      · rw [Nat.beq_refl] at hb; exact absurd rfl hb
      · exact ih h
theorem eff_nils {op : Op} {ty : TypeId} {s : S} {args : List V} {fr : Nat} (hf : ∀ i, fr ≤ i → s.blk i = none) {e : Eff} (h : EffOk P X op (addNil s fr (nilArgs P op ty args fr).2) (nilArgs P op ty args fr).1 e) :
    EffOk P X op s args ⟨e.v, e.rd, joinW (nilW fr (nilArgs P op ty args fr).2) e.wr⟩ := by
  intro o ho hd D s2 a w β hc hb hB hargs hrd hwr K Q hK
  have hkey : ∀ i, look (joinW (nilW fr (nilArgs P op ty args fr).2) e.wr) i ≠ none → s2.blk i = s.blk i := fun i hi => by
    cases hl : look (joinW (nilW fr (nilArgs P op ty args fr).2) e.wr) i with
    | none => exact absurd hl hi
    | some v =>
      obtain ⟨q, hq, rfl, _⟩ : ∃ q ∈ joinW (nilW fr (nilArgs P op ty args fr).2) e.wr, q.1 = i ∧ q.2 = v := by
        clear hi hK hwr
        generalize joinW (nilW fr (nilArgs P op ty args fr).2) e.wr = l at hl
        induction l with
        | nil => cases hl
        | cons p r ih =>
          simp only [look] at hl
          split at hl
          · rename_i hb2; cases hl; exact ⟨p, List.mem_cons_self, Nat.eq_of_beq_eq_true hb2, rfl⟩
          · obtain ⟨q, k1, k2⟩ := ih hl; exact ⟨q, List.mem_cons_of_mem _ k1, k2⟩
      exact hwr q hq
  have hjn : ∀ i, look (nilW fr (nilArgs P op ty args fr).2) i ≠ none → look (joinW (nilW fr (nilArgs P op ty args fr).2) e.wr) i ≠ none := fun i hi => by
    simp only [joinW, look_app, look_map]
    cases h2 : look (nilW fr (nilArgs P op ty args fr).2) i with
    | none => exact absurd h2 hi
    | some v => simp
  have hjw : ∀ i, look e.wr i ≠ none → look (joinW (nilW fr (nilArgs P op ty args fr).2) e.wr) i ≠ none := fun i hi => by
    simp only [joinW, look_app, look_map]
    cases h2 : look (nilW fr (nilArgs P op ty args fr).2) i with
    | none => simp only [look_filter e.wr i h2]; exact hi
    | some v => simp
  have hagree : ∀ i, s2.blk i = s.blk i → (addNil s2 fr (nilArgs P op ty args fr).2).blk i = (addNil s fr (nilArgs P op ty args fr).2).blk i := fun i hi => by
    simp only [addNil, upd, hi]
  obtain ⟨β', k1, k2, k3⟩ := RepB.nils (Nat.le_trans hc.base hc.size) (obs := (nilArgs P op ty args fr).2) (fr := fr) hB (fun i h1 h2 => by
    rw [hkey i (hjn i ?_)]
    · exact hf i h1
    · rw [nilW_look, if_pos h1, List.getElem?_eq_getElem (by omega)]; simp) nilArgs_isNil
  refine h o ho hd D (addNil s2 fr (nilArgs P op ty args fr).2) a w β' hc (Bm.le_trans hb k1) k2 (nilArgs_ok k1 k3 hargs) (fun id hid => hagree id (hrd id hid)) (fun q hq => hagree q.1 (hkey q.1 (hjw q.1 (look_key hq)))) K Q (fun a' w' hR => hK a' w' ?_)
  have e1 : upd (addNil s2 fr (nilArgs P op ty args fr).2).blk (look e.wr) = upd s2.blk (look (joinW (nilW fr (nilArgs P op ty args fr).2) e.wr)) := joinW_upd s2.blk _ _
  rw [e1] at hR
  exact hR
theorem rel_nils {op : Op} {ty : TypeId} {s : S} {args : List V} {fr : Nat} (hf : ∀ i, fr ≤ i → s.blk i = none) {T : Type} {rd wi : List Nat} {post : T → Option Prop} {e : T → V × List (Nat × Option Ob)} (h : RelOk P X op (addNil s fr (nilArgs P op ty args fr).2) (nilArgs P op ty args fr).1 T rd wi post e) :
    RelOk P X op s args T rd ((nilW fr (nilArgs P op ty args fr).2).map (·.1) ++ wi) post (fun x => ((e x).1, joinW (nilW fr (nilArgs P op ty args fr).2) (e x).2)) := by
  intro o ho hd D s2 a w β hc hb hB hargs hrd hwr K Q hK
  have hagree : ∀ i, s2.blk i = s.blk i → (addNil s2 fr (nilArgs P op ty args fr).2).blk i = (addNil s fr (nilArgs P op ty args fr).2).blk i := fun i hi => by
    simp only [addNil, upd, hi]
  obtain ⟨β', k1, k2, k3⟩ := RepB.nils (Nat.le_trans hc.base hc.size) (obs := (nilArgs P op ty args fr).2) (fr := fr) hB (fun i h1 h2 => by
    rw [hwr i (List.mem_append_left _ ?_)]
    · exact hf i h1
    · have h3 : look (nilW fr (nilArgs P op ty args fr).2) i ≠ none := by
        rw [nilW_look, if_pos h1, List.getElem?_eq_getElem (by omega)]; simp
      cases h4 : look (nilW fr (nilArgs P op ty args fr).2) i with
      | none => exact absurd h4 h3
      | some v =>
        obtain ⟨q, hq, rfl⟩ := look_mem h4
        exact List.mem_map.2 ⟨q, hq, rfl⟩) nilArgs_isNil
  refine h o ho hd D (addNil s2 fr (nilArgs P op ty args fr).2) a w β' hc (Bm.le_trans hb k1) k2 (nilArgs_ok k1 k3 hargs) (fun id hid => hagree id (hrd id hid)) (fun id hid => hagree id (hwr id (List.mem_append_right _ hid))) K Q (fun y hy a' w' hR => hK y hy a' w' ?_)
  have e1 : upd (addNil s2 fr (nilArgs P op ty args fr).2).blk (look (e y).2) = upd s2.blk (look (joinW (nilW fr (nilArgs P op ty args fr).2) (e y).2)) := joinW_upd s2.blk _ _
  rw [e1] at hR
  exact hR
def nilSegs (P : Program) : Nat → List TypeId → List Seg → List Seg × List Ob
  | _, _, [] => ([], [])
  | fr, ts, .cells ls :: r => (.cells (nilLs P fr ts ls).1 :: (nilSegs P (fr + (nilLs P fr ts ls).2.length) (ts.drop ls.length) r).1, (nilLs P fr ts ls).2 ++ (nilSegs P (fr + (nilLs P fr ts ls).2.length) (ts.drop ls.length) r).2)
  | fr, ts, .arr n cols :: r => (.arr n cols :: (nilSegs P fr (ts.drop (n * cols.length)) r).1, (nilSegs P fr (ts.drop (n * cols.length)) r).2)
theorem nilLs_len : ∀ {ls : List L} {ts : List TypeId} {fr : Nat}, (nilLs P fr ts ls).1.length = ls.length
  | [], ts, fr => by cases ts <;> rfl
  | l :: ls, [], fr => rfl
  | l :: ls, t :: ts, fr => by
    cases hl : nilL P t l with
    | none => simp only [nilLs, hl, List.length_cons, nilLs_len]
    | some o => simp only [nilLs, hl, List.length_cons, nilLs_len]
theorem nilLs_get {β β' : Bm} (hle : β.le β') : ∀ {ls : List L} {ts : List TypeId} {fr : Nat}, nilAt β' fr (nilLs P fr ts ls).2 → ∀ (j : Nat) (l' : L), (nilLs P fr ts ls).1[j]? = some l' → ∃ l, ls[j]? = some l ∧ ∀ x, l.rel β x → l'.rel β' x
  | [], ts, fr, _, j, l', h => by cases ts <;> simp [nilLs] at h
  | l :: ls, [], fr, _, j, l', h => ⟨l', by simpa [nilLs] using h, fun x => L.rel_mono hle _ _⟩
  | l :: ls, t :: ts, fr, hn, j, l', h => by
    cases hl : nilL P t l with
    | none =>
      simp only [nilLs, hl] at hn h
      cases j with
      | zero => simp at h; subst h; exact ⟨l, rfl, fun x => L.rel_mono hle _ _⟩
      | succ j => simpa using nilLs_get hle hn j l' (by simpa using h)
    | some o =>
      simp only [nilLs, hl] at hn h
      obtain ⟨rfl, _⟩ := nilL_ok hl
      cases j with
      | zero =>
        simp at h; subst h
        refine ⟨_, rfl, fun x hx => ?_⟩
        have hx : x = .slice none 0 0 := hx
        exact ⟨by rw [hx]; exact hn 0 o rfl, none, 0, 0, hx⟩
      | succ j =>
        have h2 : nilAt β' (fr + 1) (nilLs P (fr + 1) ts ls).2 := fun i o' hi => by
          have := hn (i + 1) o' (by simpa using hi)
          rwa [show fr + (i + 1) = fr + 1 + i by omega] at this
        simpa using nilLs_get hle h2 j l' (by simpa using h)
theorem nilSegs_ok {β β' : Bm} (hle : β.le β') {w : World} {b : Nat} : ∀ {segs : List Seg} {ts : List TypeId} {fr off : Nat}, nilAt β' fr (nilSegs P fr ts segs).2 → segsOk β w b off segs → segsOk β' w b off (nilSegs P fr ts segs).1
  | [], _, _, _, _, _ => trivial
  | .cells ls :: r, ts, fr, off, hn, ⟨h1, h2⟩ => by
    simp only [nilSegs] at hn ⊢
    refine ⟨fun j l' hj => ?_, ?_⟩
    · obtain ⟨l, k1, k2⟩ := nilLs_get hle (fun j o hj => hn j o (by rw [List.getElem?_append_left (List.getElem?_eq_some_iff.1 hj).1]; exact hj)) j l' hj
      obtain ⟨x, q1, q2⟩ := h1 j l k1
      exact ⟨x, q1, k2 x q2⟩
    · rw [nilLs_len]
      refine nilSegs_ok hle (fun j o hj => ?_) h2
      have := hn ((nilLs P fr ts ls).2.length + j) o (by rw [List.getElem?_append_right (by omega)]; simpa using hj)
      rwa [← Nat.add_assoc] at this
  | .arr n cols :: r, ts, fr, off, hn, ⟨h1, h2⟩ => by
    simp only [nilSegs] at hn ⊢
    exact ⟨h1, nilSegs_ok hle hn h2⟩
theorem nilSegs_isNil : ∀ {segs : List Seg} {ts : List TypeId} {fr : Nat}, ∀ o ∈ (nilSegs P fr ts segs).2, isNilV o
  | [], _, _, o, h => by cases h
  | .cells ls :: r, ts, fr, o, h => by
    simp only [nilSegs, List.mem_append] at h
    rcases h with h | h
    · exact nilLs_isNil o h
    · exact nilSegs_isNil o h
  | .arr n cols :: r, ts, fr, o, h => nilSegs_isNil (segs := r) o h
theorem RepB.retell {D : Dx} {β : Bm} {s : S} {a : Act} {w : World} (h : RepB X D β s a w) {id : Nat} {o o' : Ob} (hs : s.blk id = some o) (hok : ∀ p, β id = some p → o.ok β w p → o'.ok β w p) (how : o'.own = o.own) (hg : o ≠ .gone) (hft : ∀ p b, o'.foot p b → o.foot p b) :
    RepB X D β ⟨s.tmp, upd s.blk (look [(id, some o')])⟩ a w := by
  refine { h with mem := fun i q hq => ?_, dom := fun i q hq => ?_, inj := fun i i' q q' r r' b hq hq' how2 hng hr hr' hb hb' => ?_ }
  · simp only [upd_one] at hq
    split at hq
    · rename_i e; subst e; cases hq
      obtain ⟨p, k1, k2, k3⟩ := h.mem i o hs
      exact ⟨p, k1, hok p k1 k2, fun hh b hb => k3 (by rw [← how]; exact hh) b (hft p b hb)⟩
    · exact h.mem i q hq
  · simp only [upd_one]
    split
    · exact ⟨_, rfl⟩
    · exact h.dom i q hq
  · simp only [upd_one] at hq hq'
    have key : ∀ j u, (if j = id then some o' else s.blk j) = some u → ∃ u', s.blk j = some u' ∧ (u ≠ .gone → u' ≠ .gone) ∧ u.own = u'.own ∧ ∀ p b, u.foot p b → u'.foot p b := by
      intro j u hu
      split at hu
      · rename_i e; subst e; cases hu
        exact ⟨o, hs, fun _ => hg, how, hft⟩
      · exact ⟨u, hu, fun h => h, rfl, fun _ _ h => h⟩
    obtain ⟨u1, a1, _, a3, a4⟩ := key i q hq
    obtain ⟨u2, b1, b2, _, b4⟩ := key i' q' hq'
    exact h.inj i i' u1 u2 r r' b a1 b1 (by rw [← a3]; exact how2) (b2 hng) hr hr' (a4 r b hb) (b4 r' b hb')
def nilAlloc (P : Program) (t : TypeId) (fr : Nat) (e : Eff) : Eff := match e.wr, P.cellTypes P.depth t with
  | [(id, some (.mem true segs))], some ts => if Nat.beq id fr && !(nilSegs P (fr + 1) ts segs).2.isEmpty then ⟨e.v, e.rd, (id, some (.mem true (nilSegs P (fr + 1) ts segs).1)) :: nilW (fr + 1) (nilSegs P (fr + 1) ts segs).2⟩ else e
  | _, _ => e
theorem nilAlloc_ok {op : Op} {s : S} {args : List V} {fr : Nat} (hf : ∀ i, fr ≤ i → s.blk i = none) {t : TypeId} {e : Eff} (h : EffOk P X op s args e) : EffOk P X op s args (nilAlloc P t fr e) := by
  unfold nilAlloc
  split
  · rename_i id segs ts hwr0 hts
    split
    · rename_i hc
      simp only [Bool.and_eq_true] at hc
      have hid := Nat.eq_of_beq_eq_true hc.1
      subst hid
      intro o ho hd D s2 a w β hc hb hB hargs hrd hwr K Q hK
      refine h o ho hd D s2 a w β hc hb hB hargs hrd (fun q hq => ?_) K Q (fun a' w' hR => hK a' w' ?_)
      · rw [hwr0, List.mem_singleton] at hq
        subst hq
        exact hwr (id, some (.mem true (nilSegs P (id + 1) ts segs).1)) (by simp)
      · rw [hwr0] at hR
        obtain ⟨hc', β1, hb1, hB1⟩ := hR
        obtain ⟨β2, k1, k2, k3⟩ := RepB.nils (Nat.le_trans hc'.base hc'.size) (obs := (nilSegs P (id + 1) ts segs).2) (fr := id + 1) hB1 (fun i h1 h2 => by
          simp only [upd_one]
          rw [if_neg (by omega)]
          have := hwr (i, look (nilW (id + 1) (nilSegs P (id + 1) ts segs).2) i |>.getD none) ?_
          · rw [this]; exact hf i (by omega)
          · refine List.mem_cons_of_mem _ ?_
            have : ∀ (obs : List Ob) (fr : Nat), fr ≤ i → i < fr + obs.length → (i, (look (nilW fr obs) i).getD none) ∈ nilW fr obs := by
              intro obs
              induction obs with
              | nil => intro fr a b; simp at b; omega
              | cons x xs ih =>
                intro fr a b
                simp only [nilW, look]
                by_cases e : fr = i
                · subst e; simp
                · have hb : Nat.beq fr i = false := by
                    cases hb : Nat.beq fr i
                    · rfl
                    · exact absurd (Nat.eq_of_beq_eq_true hb) e
                  rw [hb]
                  exact List.mem_cons_of_mem _ (ih (fr + 1) (by omega) (by simp at b; omega))
            exact this _ _ h1 h2) nilSegs_isNil
        have hbk : (addNil ⟨upd s2.tmp (look (wrT o.dst e.v)), upd s2.blk (look [(id, some (.mem true segs))])⟩ (id + 1) (nilSegs P (id + 1) ts segs).2).blk id = some (.mem true segs) := by
          simp only [addNil, upd, nilW_look]
          rw [if_neg (by omega)]
          simp [look]
        have k4 := k2.retell (o' := .mem true (nilSegs P (id + 1) ts segs).1) hbk (fun p _ hp => by
          cases p with
          | val _ => exact hp.elim
          | blk b => exact ⟨hp.1, nilSegs_ok (Bm.le_refl _) k3 hp.2.1, hp.2.2⟩) rfl (fun e => by cases e) (fun _ _ h => h)
        refine ⟨hc', β2, Bm.le_trans hb1 k1, ?_⟩
        have e1 : (⟨(addNil ⟨upd s2.tmp (look (wrT o.dst e.v)), upd s2.blk (look [(id, some (.mem true segs))])⟩ (id + 1) (nilSegs P (id + 1) ts segs).2).tmp, upd (addNil ⟨upd s2.tmp (look (wrT o.dst e.v)), upd s2.blk (look [(id, some (.mem true segs))])⟩ (id + 1) (nilSegs P (id + 1) ts segs).2).blk (look [(id, some (.mem true (nilSegs P (id + 1) ts segs).1))])⟩ : S) =
            ⟨upd s2.tmp (look (wrT o.dst e.v)), upd s2.blk (look ((id, some (.mem true (nilSegs P (id + 1) ts segs).1)) :: nilW (id + 1) (nilSegs P (id + 1) ts segs).2))⟩ := by
          simp only [addNil]
          congr 1
          funext i
          simp only [upd, look]
          by_cases e : id = i
          · subst e; simp
          · have hb : Nat.beq id i = false := by
              cases hb : Nat.beq id i
              · rfl
              · exact absurd (Nat.eq_of_beq_eq_true hb) e
            simp only [hb, Bool.false_eq_true, if_false]
        rw [← e1]; exact k4
    · exact h
  · exact h
def nilPath (P : Program) (op : Op) (fr : Nat) (p : Path) : Path := match op with
  | .alloc t => ⟨p.g, p.need, match p.e with | .det e => .det (nilAlloc P t fr e) | e => e⟩
  | _ => p
theorem nilPath_ok {op : Op} {s : S} {args : List V} {fr : Nat} (hf : ∀ i, fr ≤ i → s.blk i = none) {p : Path} (h : EfOk P X op s args p.e) : EfOk P X op s args (nilPath P op fr p).e := by
  unfold nilPath
  split
  · obtain ⟨g, n, e⟩ := p
    cases e with
    | det e => exact nilAlloc_ok hf h
    | rel T rd wi post e => exact h
  · exact h
def nilEf (fr : Nat) (obs : List Ob) : Ef → Ef
  | .det e => .det ⟨e.v, e.rd, joinW (nilW fr obs) e.wr⟩
  | .rel T rd wi post e => .rel T rd ((nilW fr obs).map (·.1) ++ wi) post fun x => ((e x).1, joinW (nilW fr obs) (e x).2)
def effsN (P : Program) (call : CallH) (op : Op) (ty : TypeId) (args : List V) (s : S) (fr : Nat) : Option (List Path) :=
  match (nilArgs P op ty args fr).2 with
  | [] => (match effs P call op args s fr with
    | some l => some (l.map (nilPath P op fr))
    | none => none)
  | _ :: _ => match effs P call op (nilArgs P op ty args fr).1 (addNil s fr (nilArgs P op ty args fr).2) (fr + (nilArgs P op ty args fr).2.length) with
    | some l => some (l.map fun p => ⟨p.g, p.need, nilEf fr (nilArgs P op ty args fr).2 p.e⟩)
    | none => none
theorem effsN_ok {call : CallH} (hcall : CallHOk P X call) {op : Op} {ty : TypeId} {args : List V} {s : S} {fr : Nat} (hf : ∀ i, fr ≤ i → s.blk i = none) {l : List Path} (h : effsN P call op ty args s fr = some l) : PathsOk P X op s args l := by
  unfold effsN at h
  split at h
  · split at h
    · rename_i l0 h0
      cases h
      obtain ⟨p, k1, k2, k3⟩ := effs_ok (X := X) hcall hf h0
      refine ⟨_, List.mem_map.2 ⟨p, k1, rfl⟩, ?_, fun hn => ?_⟩
      · unfold nilPath; split <;> exact k2
      · exact nilPath_ok hf (k3 (by unfold nilPath at hn; split at hn <;> exact hn))
    · cases h
  · rename_i hne
    split at h
    · rename_i l0 h0
      cases h
      have hf2 : ∀ i, fr + (nilArgs P op ty args fr).2.length ≤ i → (addNil s fr (nilArgs P op ty args fr).2).blk i = none := fun i hi => by
        simp only [addNil, upd, nilW_look]
        rw [if_pos (by omega), List.getElem?_eq_none (by omega)]
        exact hf i (by omega)
      obtain ⟨p, k1, k2, k3⟩ := effs_ok (X := X) hcall hf2 h0
      refine ⟨_, List.mem_map.2 ⟨p, k1, rfl⟩, k2, fun hn => ?_⟩
      have k3 := k3 hn
      obtain ⟨g, n, e⟩ := p
      cases e with
      | det e => exact eff_nils hf k3
      | rel T rd wi post e => exact rel_nils hf k3
    · cases h
def optP : Option Bool → Option Prop
  | none => none
  | some c => some (c = true)
def bareAll : List V → Option Prop
  | [] => none
  | v :: vs => and2 (optP (bare v).2) (bareAll vs)
theorem bareAll_ok : ∀ {vs : List V}, holdsP (bareAll vs) → ∀ {β : Bm} {xs : List Value}, All2 (V.rel β) vs xs → All2 (V.rel β) (vs.map fun v => (bare v).1) xs
  | [], _, β, [], _ => trivial
  | v :: vs, h, β, x :: xs, hx => by
    obtain ⟨h1, h2⟩ := and2_ok h
    refine ⟨bare_ok hx.1 (fun c hc => ?_), bareAll_ok h2 hx.2⟩
    rw [hc] at h1; exact h1
  | [], _, _, _ :: _, h => h.elim
  | _ :: _, _, _, [], h => h.elim
def effsB (P : Program) (call : CallH) (op : Op) (ty : TypeId) (args : List V) (s : S) (fr : Nat) : Option (List Path) :=
  match effsN P call op ty args s fr with
  | some l => some l
  | none => match args.any (fun v => (bare v).2.isSome) with
    | true => (match effsN P call op ty (args.map fun v => (bare v).1) s fr with
      | some l => some (l.map fun p => ⟨p.g, and2 (bareAll args) p.need, p.e⟩)
      | none => none)
    | false => none
theorem effsB_ok {call : CallH} (hcall : CallHOk P X call) {op : Op} {ty : TypeId} {args : List V} {s : S} {fr : Nat} (hf : ∀ i, fr ≤ i → s.blk i = none) {l : List Path} (h : effsB P call op ty args s fr = some l) : PathsOk P X op s args l := by
  unfold effsB at h
  split at h
  · rename_i l0 h0; cases h; exact effsN_ok hcall hf h0
  · split at h
    · split at h
      · rename_i l0 h0
        cases h
        obtain ⟨p, k1, k2, k3⟩ := effsN_ok (X := X) hcall hf h0
        refine ⟨_, List.mem_map.2 ⟨p, k1, rfl⟩, k2, fun hn => ?_⟩
        obtain ⟨n1, n2⟩ := and2_ok hn
        have k3 := k3 n2
        obtain ⟨g, n, e⟩ := p
        cases e with
        | det e =>
          intro o ho hd D s2 a w β hc hb hB hargs hrd hwr K Q hK
          exact k3 o ho hd D s2 a w β hc hb hB (bareAll_ok n1 hargs) hrd hwr K Q hK
        | rel T rd wi post e =>
          intro o ho hd D s2 a w β hc hb hB hargs hrd hwr K Q hK
          exact k3 o ho hd D s2 a w β hc hb hB (bareAll_ok n1 hargs) hrd hwr K Q hK
      · cases h
    · cases h
end
end Go.Proofs.YtpdijogpbnaplaaDoorHz
namespace Go.Proofs.YtpdijogpbnaplaaDoorHz
open Go Go.RowKit Go.ChangeMaps
section
variable {P : Program} {X : Cx}

structure DPath where
  g : Option Prop
  need : Option Prop
  e : Eff
structure DP where
  α : Type
  f : α → List DPath
def DynOk (P : Program) (X : Cx) (op : Op) (s : S) (args : List V) (d : DP) : Prop :=
  ∀ (o : Oper), o.op = op → (∀ t, o.dst = some t → t < X.n) → ∀ D a w β, Chg D w → D.b0.le β → RepB X D β s a w → All2 (V.rel β) args (op.operands.toList.map a.eval) →
    ∃ x, ∃ p ∈ d.f x, holdsP p.g ∧ (holdsP p.need → ∀ (K : Act → World → Prop) (Q : Exit → Act → World → Prop), (∀ a' w', Rep X D ⟨upd s.tmp (look (wrT o.dst p.e.v)), upd s.blk (look p.e.wr)⟩ a' w' → K a' w') → o.wp P a w K Q)

theorem laid_of {key : IntKind} {agg : Bool} {has : Int → Bool} {cols : List KCol} {es : Array MapEntry} {clock : Nat} (h : mapOk key agg has cols es clock) : ∃ g : Gh, g.clock = clock ∧ (∀ k, g.dom k = has k) ∧ laidOk key has es g := by
  classical
  let born : Int → Nat := fun k => if hh : ∃ e ∈ es.toList, e.key = .int key k then (Classical.choose hh).born else 0
  have hb : ∀ e ∈ es.toList, ∀ k : Int, e.key = .int key k → e.born = born k := by
    intro e he k hk
    have hh : ∃ e ∈ es.toList, e.key = .int key k := ⟨e, he, hk⟩
    have h1 := Classical.choose_spec hh
    obtain ⟨i, hi⟩ := List.getElem?_of_mem he
    obtain ⟨j, hj⟩ := List.getElem?_of_mem h1.1
    have := nodup_get h.once hi hj (by rw [hk, h1.2])
    subst this
    rw [hi] at hj
    simp only [born, dif_pos hh]
    cases hj; rfl
  refine ⟨⟨has, born, clock⟩, rfl, fun k => rfl, hb, fun k hk => hk, fun k k' hk hk' he => ?_⟩
  obtain ⟨e, he1, he2⟩ := h.all k hk
  obtain ⟨e', he1', he2'⟩ := h.all k' hk'
  have e0 : e.born = e'.born := by rw [hb e he1 k he2, hb e' he1' k' he2']; exact he
  have f1 := find_born e es.toList h.apart he1
  have f2 := find_born e' es.toList h.apart he1'
  rw [e0, f2] at f1
  cases f1
  rw [he2] at he2'
  injection he2'
def dRange (P : Program) (t : TypeId) (s : S) (fr : Nat) (args : List V) : Option DP := match args, P.underlying t with
  | [.val (.one (.map id))], some (.map _ _) => (match s.blk id with
    | some (.mp own key agg has cols) => if Nat.blt id fr then some ⟨Gh, fun g => [⟨some (∀ k, g.dom k = has k), none, ⟨.val (.one (.ptr fr 0)), [id], [(id, some (.mpl own key agg has cols g)), (fr, some (.itr true id g (fun _ => false) none))]⟩⟩]⟩ else none
    | _ => none)
  | _, _ => none
theorem dRange_ok {t : TypeId} {x : Operand} {s : S} {fr : Nat} (hf : s.blk fr = none) {args : List V} {d : DP} (h : dRange P t s fr args = some d) : DynOk P X (.range t x) s args d := by
  unfold dRange at h
  split at h
  · rename_i id kt et hu
    split at h
    · rename_i own key agg has cols hb
      split at h
      · rename_i hlt
        have hlt : id < fr := by simpa using hlt
        cases h
        intro o ho hd D a w β hc hb0 hB hargs
        obtain ⟨p, k1, k2, k3⟩ := hB.mem id _ hb
        cases p with
        | val _ => exact k2.elim
        | blk b =>
          obtain ⟨r1, es, clock, r2, r3⟩ := k2
          obtain ⟨g, g1, g2, g3⟩ := laid_of r3
          refine ⟨g, _, List.mem_singleton.2 rfl, g2, fun _ K Q hK => ?_⟩
          obtain ⟨⟨b', hx1, hx2⟩, _⟩ := hargs
          rw [k1] at hx1; cases hx1
          obtain ⟨dst, op, type, pos, after, guard⟩ := o; simp only at ho; subst ho
          have hrun : (execOp a.eval ⟨dst, .range t x, type, pos, after, guard⟩).run P w = .ok (.value (.pointer (some ⟨w.heap.size, 0, none⟩))) (w.alloc (.mapIter (some b) clock #[] clock)) := by
            have hx2 : a.eval x = .map (some b) := hx2
            simp only [execOp, hx2, Sem.run_bind, run_range_map w t kt et b es clock hu r2, Result.andThen_ok]; rfl
          unfold Oper.wp
          rw [hrun]
          have hbase := Nat.le_trans hc.base hc.size
          have hsz : (w.alloc (.mapIter (some b) clock #[] clock)).heap.size = w.heap.size + 1 := by simp
          have hk : ∀ k, k < w.heap.size → (w.alloc (.mapIter (some b) clock #[] clock)).heap[k]? = w.heap[k]? := fun k hk => Below.heap_alloc _ _ _ hk
          have hB1 := hB.later hbase (by omega) hk
          have hB2 := hB1.retell (o' := .mpl own key agg has cols g) hb (fun p hp _ => by
            rw [k1] at hp; cases hp
            exact ⟨by omega, es, by rw [hk b r1, r2, g1], by rw [g1]; exact r3, g3⟩) rfl (fun e => by cases e) (fun _ _ h => h)
          have hne : fr ≠ id := by omega
          obtain ⟨hle, hB3⟩ := hB2.fresh (id := fr) (by simp only [upd_one, if_neg hne]; exact hf) (o := .itr true id g (fun _ => false) none) (p := .blk w.heap.size) (by omega) (fun b2 hb2 => by
            cases hb2
            refine ⟨.inl hbase, fun i q r hi hg hr hfoot => ?_⟩
            simp only [upd_one] at hi
            split at hi
            · rename_i e
              subst e
              rw [k1] at hr; cases hr
              cases hi
              have hfoot : w.heap.size = b := hfoot
              omega
            · obtain ⟨p', a1, a2, _⟩ := hB.mem i q hi
              rw [hr] at a1; cases a1
              have := Ob.foot_lt a2 hg _ hfoot
              omega) ⟨by omega, b, #[], by simp only [if_neg hne.symm]; exact k1, by rw [g1]; exact heap_alloc_new _ _, fun k _ => by simp, fun k hk => by cases hk⟩
          refine hK _ _ ⟨hc.later rfl rfl rfl (by omega) (fun k hk2 _ => hk k (by omega)), _, Bm.le_trans hb0 hle, ?_⟩
          have e1 := look_two s.blk id fr (some (.mpl own key agg has cols g)) (some (.itr true id g (fun _ => false) none)) hne.symm
          rw [e1]
          exact hB3.put hd (v := .val (.one (.ptr fr 0))) ⟨w.heap.size, by simp, rfl⟩
      · cases h
    · cases h
  · cases h

def dNext (s : S) (args : List V) : Option DP := match args with
  | [.val (.one (.ptr rid 0))] => (match s.blk rid with
    | some (.itr true mid g seen _) => (match s.blk mid with
      | some (.mpl own key agg has cols g') => if Nat.beq rid mid then none else some ⟨Int, fun k => match kW agg cols k with
        | some wv => [⟨some (∀ j, has j = true → seen j = true), some (g = g'), ⟨.tup [.one (.bool (.lit false))], [rid, mid], [(mid, some (.mp own key agg has cols)), (rid, some .gone)]⟩⟩,
            ⟨some (has k = true ∧ seen k = false), some (g = g'), ⟨.tup [.one (.bool (.lit true)), .one (.int key (.tm k)), wv], [rid, mid], [(rid, some (.itr true mid g (putK seen k true) (some k)))]⟩⟩]
        | none => [⟨none, some False, ⟨.tup [], [], []⟩⟩]⟩
      | _ => none)
    | _ => none)
  | _ => none
theorem dNext_ok {x : Operand} {s : S} {args : List V} {d : DP} (h : dNext s args = some d) : DynOk P X (.next x false) s args d := by
  unfold dNext at h
  split at h
  · rename_i rid
    split at h
    · rename_i mid g seen cur hb
      split at h
      · rename_i own key agg has cols g' hm
        split at h
        · cases h
        · rename_i hne
          have hne : rid ≠ mid := fun e => by rw [e, Nat.beq_refl] at hne; exact hne rfl
          cases h
          intro o ho hd D a w β hc hb0 hB hargs
          classical
          by_cases hgg : g = g'
          · subst hgg
            obtain ⟨p, k1, k2, k3⟩ := hB.mem rid _ hb
            obtain ⟨q, l1, l2, l3⟩ := hB.mem mid _ hm
            cases p with
            | val _ => exact k2.elim
            | blk r =>
              cases q with
              | val _ => exact l2.elim
              | blk b =>
                obtain ⟨i1, bm, sn, i2, i3, i4, i5⟩ := k2
                rw [l1] at i2; cases i2
                obtain ⟨m1, es, m2, m3, m4⟩ := l2
                obtain ⟨⟨b', hx1, hx2⟩, _⟩ := hargs
                rw [k1] at hx1; cases hx1
                have hx2 : a.eval x = .pointer (some ⟨r, 0, none⟩) := hx2
                have hbase := Nat.le_trans hc.base hc.size
                obtain ⟨dst, op, type, pos, after, guard⟩ := o; simp only at ho; subst ho
                rcases run_next_at (P := P) w type r b g.clock g.clock sn es g.clock i3 m2 m3.born (Nat.le_refl _) with ⟨n1, n2⟩ | ⟨e, e1, w1, e2, e3⟩
                · -- none left
                  refine ⟨0, ?_⟩
                  simp only
                  cases hkw : kW agg cols 0 with
                  | none => exact ⟨_, List.mem_singleton.2 rfl, trivial, fun h => h.elim⟩
                  | some wv =>
                    refine ⟨_, List.mem_cons_self, fun j hj => ?_, fun _ K Q hK => ?_⟩
                    · obtain ⟨e, he, hek⟩ := m3.all j hj
                      rw [i4 j (m4.dom j hj), ← m4.at_ e he j hek]
                      have hem : (leftOf es sn) = #[] := Array.eq_empty_of_size_eq_zero n1
                      unfold leftOf at hem
                      rw [Array.filter_eq_empty_iff] at hem
                      have := hem e (by simpa using he)
                      simpa using this
                    · have hrun : (execOp a.eval ⟨dst, .next x false, type, pos, after, guard⟩).run P w = .ok (.value (.tuple #[.bool false])) w := by
                        simp only [execOp, hx2, Sem.run_bind, n2, Result.andThen_ok]; rfl
                      unfold Oper.wp
                      rw [hrun]
                      have hB1 := hB.retell (o' := .mp own key agg has cols) hm (fun p hp _ => by
                        rw [l1] at hp; cases hp
                        exact ⟨m1, es, _, m2, m3⟩) rfl (fun e => by cases e) (fun _ _ h => h)
                      have hB2 := hB1.drop (id := rid) (o := .itr true mid g seen cur) (by simp only [upd_one, if_neg hne]; exact hb)
                      refine hK _ _ ⟨hc, β, hb0, ?_⟩
                      have e1 := look_two s.blk mid rid (some (.mp own key agg has cols)) (some .gone) hne.symm
                      rw [e1]
                      exact hB2.put hd (v := .tup [.one (.bool (.lit false))]) ⟨_, rfl, ⟨rfl, trivial⟩⟩
                · -- one more
                  obtain ⟨k, f1, f2, f3⟩ := m3.keys e (by unfold leftOf at e1; simp at e1; simpa using e1.1)
                  have hes : e ∈ es.toList := by unfold leftOf at e1; simp at e1; simpa using e1.1
                  have hsn : e.born ∉ sn.toList := by unfold leftOf at e1; simp at e1; simpa using e1.2
                  refine ⟨k, ?_⟩
                  simp only
                  cases hkw : kW agg cols k with
                  | none => exact ⟨_, List.mem_singleton.2 rfl, trivial, fun h => h.elim⟩
                  | some wv =>
                    refine ⟨_, List.mem_cons_of_mem _ (List.mem_singleton.2 rfl), ⟨f2, ?_⟩, fun _ K Q hK => ?_⟩
                    · cases hs : seen k with
                      | false => rfl
                      | true =>
                        have := (i4 k (m4.dom k f2)).1 hs
                        rw [← m4.at_ e hes k f1] at this
                        exact absurd this hsn
                    · have hrun : (execOp a.eval ⟨dst, .next x false, type, pos, after, guard⟩).run P w = .ok (.value (.tuple #[.bool true, e.key, e.val])) (setBlock w1 r (.mapIter (some b) g.clock (sn.push e.born) g.clock)) := by
                        simp only [execOp, hx2, Sem.run_bind, e3, Result.andThen_ok]; rfl
                      unfold Oper.wp
                      rw [hrun]
                      have hw1 : w1.heap = w.heap ∧ w1.os = w.os ∧ w1.tape = w.tape ∧ w1.output = w.output := by rcases e2 with rfl | rfl <;> exact ⟨rfl, rfl, rfl, rfl⟩
                      have hheap : (setBlock w1 r (.mapIter (some b) g.clock (sn.push e.born) g.clock)).heap = w.heap.setIfInBounds r (.mapIter (some b) g.clock (sn.push e.born) g.clock) := by
                        unfold setBlock; rw [hw1.1]
                      have hoth : ∀ k, r ≠ k → (setBlock w1 r (.mapIter (some b) g.clock (sn.push e.born) g.clock)).heap[k]? = w.heap[k]? := fun k hk => by
                        rw [hheap, Array.getElem?_setIfInBounds_ne hk]
                      have hsz : (setBlock w1 r (.mapIter (some b) g.clock (sn.push e.born) g.clock)).heap.size = w.heap.size := by rw [hheap, Array.size_setIfInBounds]
                      have hBw := hB.write (w' := setBlock w1 r (.mapIter (some b) g.clock (sn.push e.born) g.clock)) (o' := .itr true mid g (putK seen k true) (some k)) hb rfl rfl k1 (by omega)
                        (fun j _ hj => hoth j (fun e => hj (by rw [e]; rfl))) hbase
                        ⟨by omega, b, sn.push e.born, l1, by rw [hheap]; simp [i1], fun j hj => ?_, fun j hj => ?_⟩ (fun _ h => .inl h)
                      · refine hK _ _ ⟨hc.later hw1.2.1 hw1.2.2.1 hw1.2.2.2 (by omega) (fun j hj hF => hoth j (fun e => ?_)), β, hb0, ?_⟩
                        · subst e
                          rcases k3 rfl r rfl with h1 | h1
                          · omega
                          · exact hF h1
                        · refine hBw.put hd (v := .tup [.one (.bool (.lit true)), .one (.int key (.tm k)), wv]) ⟨_, rfl, rfl, ?_, kW_ok hkw f3 β, trivial⟩
                          show e.key = _
                          rw [f1]; rfl
                      · rw [Array.toList_push, List.mem_append, List.mem_singleton, ← i4 j hj]
                        by_cases hjk : j = k
                        · subst hjk
                          simp only [putK, if_true, true_iff]
                          exact .inr (m4.at_ e hes j f1).symm
                        · simp only [putK, if_neg hjk]
                          constructor
                          · intro h; exact .inl h
                          · rintro (h | h)
                            · exact h
                            · exact absurd (m4.inj j k hj (m4.dom k f2) (by rw [h, m4.at_ e hes k f1])) hjk
                      · cases hj
                        exact ⟨m4.dom k f2, sn, by rw [m4.at_ e hes k f1]⟩
          · by_cases hall : ∀ j, has j = true → seen j = true
            · refine ⟨0, ?_⟩
              simp only
              cases hkw : kW agg cols 0 with
              | none => exact ⟨_, List.mem_singleton.2 rfl, trivial, fun h => h.elim⟩
              | some wv => exact ⟨_, List.mem_cons_self, hall, fun h => absurd h hgg⟩
            · obtain ⟨k, hk⟩ := Classical.not_forall.1 hall
              obtain ⟨hk1, hk2⟩ := Classical.not_imp.1 hk
              refine ⟨k, ?_⟩
              simp only
              cases hkw : kW agg cols k with
              | none => exact ⟨_, List.mem_singleton.2 rfl, trivial, fun h => h.elim⟩
              | some wv => exact ⟨_, List.mem_cons_of_mem _ (List.mem_singleton.2 rfl), ⟨hk1, by simpa using hk2⟩, fun h => absurd h hgg⟩
      · cases h
    · cases h
  · cases h
def dEntry (s : S) (args : List V) : Option DP := match args with
  | [.val (.one (.ptr rid 0))] => (match s.blk rid with
    | some (.itr true mid g _ (some k)) => (match s.blk mid with
      | some (.mpl _ key agg has cols g') => (match kW agg cols k with
        | some wv => some ⟨Unit, fun _ => [⟨none, some (g = g' ∧ has k = true), ⟨.tup [.one (.int key (.tm k)), wv], [rid, mid], []⟩⟩]⟩
        | none => none)
      | _ => none)
    | _ => none)
  | _ => none
theorem dEntry_ok {x : Operand} {s : S} {args : List V} {d : DP} (h : dEntry s args = some d) : DynOk P X (.entry x) s args d := by
  unfold dEntry at h
  split at h
  · rename_i rid
    split at h
    · rename_i mid g seen k hb
      split at h
      · rename_i own key agg has cols g' hm
        split at h
        · rename_i wv hkw
          cases h
          intro o ho hd D a w β hc hb0 hB hargs
          refine ⟨(), _, List.mem_singleton.2 rfl, trivial, ?_⟩
          rintro ⟨hgg, hk⟩ K Q hK
          subst hgg
          obtain ⟨p, k1, k2, k3⟩ := hB.mem rid _ hb
          obtain ⟨q, l1, l2, l3⟩ := hB.mem mid _ hm
          cases p with
          | val _ => exact k2.elim
          | blk r =>
            cases q with
            | val _ => exact l2.elim
            | blk b =>
              obtain ⟨i1, bm, sn, i2, i3, i4, i5⟩ := k2
              rw [l1] at i2; cases i2
              obtain ⟨m1, es, m2, m3, m4⟩ := l2
              obtain ⟨i6, sn', rfl⟩ := i5 k rfl
              obtain ⟨⟨b', hx1, hx2⟩, _⟩ := hargs
              rw [k1] at hx1; cases hx1
              have hx2 : a.eval x = .pointer (some ⟨r, 0, none⟩) := hx2
              obtain ⟨e, e1, e2⟩ := m3.all k hk
              rw [← m4.at_ e e1 k e2] at i3
              have hrun := run_entry_at (P := P) w r b g.clock sn' es g.clock e i3 m2 e1 m3.apart
              obtain ⟨dst, op, type, pos, after, guard⟩ := o; simp only at ho; subst ho
              have hrun : (execOp a.eval ⟨dst, .entry x, type, pos, after, guard⟩).run P w = .ok (.value (.tuple #[e.key, e.val])) w := by
                simp only [execOp, hx2, Sem.run_bind, hrun, Result.andThen_ok]; rfl
              unfold Oper.wp
              rw [hrun]
              obtain ⟨q, hq, _, hv⟩ := m3.keys e e1
              rw [e2] at hq
              cases hq
              exact hK _ _ ⟨hc, β, hb0, hB.put hd (v := .tup [.one (.int key (.tm k)), wv]) ⟨_, rfl, by rw [e2]; rfl, kW_ok hkw hv β, trivial⟩⟩
        · cases h
      · cases h
    · cases h
  · cases h
def dynOf (P : Program) (op : Op) (args : List V) (s : S) (fr : Nat) : Option DP := match op with
  | .range t _ => dRange P t s fr args
  | .next _ false => dNext s args
  | .entry _ => dEntry s args
  | _ => none
theorem dynOf_ok {op : Op} {args : List V} {s : S} {fr : Nat} (hf : s.blk fr = none) {d : DP} (h : dynOf P op args s fr = some d) : DynOk P X op s args d := by
  unfold dynOf at h
  split at h
  · exact dRange_ok hf h
  · exact dNext_ok h
  · exact dEntry_ok h
  · cases h
end
end Go.Proofs.YtpdijogpbnaplaaDoorHz
namespace Go.Proofs.YtpdijogpbnaplaaDoorHz
open Go Go.RowKit

noncomputable def lget {α : Type} (d : α) (l : List α) : Nat → α :=
  List.rec (motive := fun _ => Nat → α) (fun _ => d) (fun x _ ih n => Nat.rec (motive := fun _ => α) x (fun m _ => ih m) n) l
theorem lget_eq {α : Type} (d : α) : ∀ (l : List α) (n : Nat), lget d l n = l.getD n d
  | [], n => by simp [lget]
  | x :: xs, 0 => rfl
  | x :: xs, n + 1 => by
    have := lget_eq d xs n
    simp only [List.getD_cons_succ, ← this]; rfl
noncomputable def lset {α : Type} (v : α) (l : List α) : Nat → List α :=
  List.rec (motive := fun _ => Nat → List α) (fun _ => []) (fun x xs ih n => Nat.rec (motive := fun _ => List α) (v :: xs) (fun m _ => x :: ih m) n) l
theorem lset_eq {α : Type} (v : α) : ∀ (l : List α) (n : Nat), lset v l n = l.set n v
  | [], n => by simp [lset]
  | x :: xs, 0 => rfl
  | x :: xs, n + 1 => by
    have := lset_eq v xs n
    simp only [List.set_cons_succ, ← this]; rfl

structure St where
  tmps : List V
  mem : List Ob
noncomputable def view (σ : St) : S := ⟨fun t => lget (.val (.one .junk)) σ.tmps t, fun id => σ.mem[id]?⟩

noncomputable def appT (n : Nat) (ts : List V) (d : Option Tmp) (v : V) : Option (List V) :=
  match d with
  | none => some ts
  | some t => if Nat.blt t n then some (lset v ts t) else none
def app1 (ms : List Ob) (id : Nat) (b : Ob) : Option (List Ob) := match ms[id]? with
  | some _ => some (ms.set id b)
  | none => if Nat.beq id ms.length then some (ms ++ [b]) else none
def appM : List Ob → List (Nat × Option Ob) → Option (List Ob)
  | ms, [] => some ms
  | ms, (id, some b) :: r => if r.any (fun q => Nat.beq q.1 id) then none else (match app1 ms id b with
    | some ms' => appM ms' r
    | none => none)
  | _, (_, none) :: _ => none
theorem appT_ok {n : Nat} {ts ts' : List V} (hf : ts.length = n) {d : Option Tmp} {v : V} (h : appT n ts d v = some ts') :
    (fun t => lget (.val (.one .junk)) ts' t) = upd (fun t => lget (.val (.one .junk)) ts t) (look (wrT d v)) ∧ ts'.length = n ∧ ∀ t, d = some t → t < n := by
  unfold appT at h
  split at h
  · cases h; exact ⟨rfl, hf, fun t h => by cases h⟩
  · rename_i t
    split at h
    · rename_i hlt
      cases h
      have hlt' : t < n := by simpa [Nat.blt_eq] using hlt
      refine ⟨?_, by rw [lset_eq]; simpa using hf, fun t' h => by cases h; exact hlt'⟩
      funext u
      simp only [upd_one, wrT, lget_eq, lset_eq, List.getD_eq_getElem?_getD, List.getElem?_set]
      by_cases e1 : u = t
      · subst e1; rw [← hf] at hlt'; simp [hlt']
      · have : ¬ t = u := fun h => e1 h.symm
        simp [e1, this]
    · cases h
theorem app1_ok {ms ms' : List Ob} {id : Nat} {b : Ob} (h : app1 ms id b = some ms') : (fun j => ms'[j]?) = upd (fun j : Nat => ms[j]?) (look [(id, some b)]) ∧ ms.length ≤ ms'.length := by
  unfold app1 at h
  split at h
  · rename_i b0 hb0
    cases h
    have hlt : id < ms.length := (List.getElem?_eq_some_iff.1 hb0).1
    refine ⟨?_, by simp⟩
    funext j
    simp only [upd_one, List.getElem?_set]
    by_cases e1 : j = id
    · subst e1; simp [hlt]
    · have : ¬ id = j := fun h => e1 h.symm
      simp [e1, this]
  · split at h
    · rename_i hid
      cases h
      have := Nat.eq_of_beq_eq_true hid
      subst this
      refine ⟨?_, by simp⟩
      funext j
      simp only [upd_one, List.getElem?_append]
      by_cases e1 : j < ms.length
      · have : ¬ j = ms.length := by omega
        simp [e1, this]
      · by_cases e2 : j = ms.length
        · subst e2; simp
        · rw [if_neg e1, if_neg e2, List.getElem?_eq_none (by simp; omega), List.getElem?_eq_none (by omega)]
    · cases h
theorem look_none {α : Type} {l : List (Nat × α)} {x : Nat} (h : l.any (fun q => Nat.beq q.1 x) = false) : look l x = none := by
  cases hl : look l x with
  | none => rfl
  | some v =>
    obtain ⟨p, hp, he⟩ := look_mem hl
    rw [List.any_eq_false] at h
    exact absurd (by rw [he]; exact Nat.beq_refl x) (h p hp)
theorem appM_ok : ∀ {wr : List (Nat × Option Ob)} {ms ms' : List Ob}, appM ms wr = some ms' → (fun id => ms'[id]?) = upd (fun id : Nat => ms[id]?) (look wr) ∧ ms.length ≤ ms'.length
  | [], ms, ms', h => by cases h; exact ⟨rfl, Nat.le_refl _⟩
  | (id, some b) :: r, ms, ms', h => by
    unfold appM at h
    split at h
    · cases h
    · rename_i hn
      simp only [Bool.not_eq_true] at hn
      split at h
      · rename_i m1 h1
        obtain ⟨k1, k2⟩ := app1_ok h1
        obtain ⟨k3, k4⟩ := appM_ok h
        refine ⟨?_, Nat.le_trans k2 k4⟩
        rw [k3, k1]
        funext j
        by_cases e : id = j
        · subst e
          simp only [upd, look, look_none hn, Nat.beq_refl, if_true]
        · have hb : Nat.beq id j = false := by
            cases hb : Nat.beq id j
            · rfl
            · exact absurd (Nat.eq_of_beq_eq_true hb) e
          simp only [upd, look, hb, Bool.false_eq_true, if_false]
      · cases h
  | (_, none) :: _, _, _, h => by cases h

def impP : Option Prop → Prop → Prop
  | none, x => x
  | some g, x => g → x
def andP : Option Prop → Prop → Prop
  | none, x => x
  | some n, x => n ∧ x
theorem impP_ok {g : Option Prop} {x : Prop} (h : impP g x) (hg : holdsP g) : x := by
  cases g with
  | none => exact h
  | some p => exact h hg
theorem andP_ok {n : Option Prop} {x : Prop} (h : andP n x) : holdsP n ∧ x := by
  cases n with
  | none => exact ⟨trivial, h⟩
  | some p => exact h
def outE (b : Bool) (K : Eff → Prop) : Ef → Prop
  | .det e => K e
  | .rel _ rd _ post e => match b with
    | true => ∀ x, impP (post x) (K ⟨(e x).1, rd, (e x).2⟩)
    | false => False
def allP (b : Bool) (K : Eff → Prop) : List Path → Prop
  | [] => True
  | [p] => impP p.g (andP p.need (outE b K p.e))
  | p :: q :: r => impP p.g (andP p.need (outE b K p.e)) ∧ allP b K (q :: r)
theorem allP_mem {b : Bool} {K : Eff → Prop} : ∀ {l : List Path}, allP b K l → ∀ p ∈ l, impP p.g (andP p.need (outE b K p.e))
  | [], _, p, hp => by cases hp
  | [q], h, p, hp => by rw [List.mem_singleton.1 hp]; exact h
  | q :: q2 :: r, h, p, hp => by
    rcases List.mem_cons.1 hp with rfl | hp
    · exact h.1
    · exact allP_mem h.2 p hp
def allD (K : Eff → Prop) : List DPath → Prop
  | [] => True
  | [p] => impP p.g (andP p.need (K p.e))
  | p :: q :: r => impP p.g (andP p.need (K p.e)) ∧ allD K (q :: r)
theorem allD_mem {K : Eff → Prop} : ∀ {l : List DPath}, allD K l → ∀ p ∈ l, impP p.g (andP p.need (K p.e))
  | [], _, p, hp => by cases hp
  | [q], h, p, hp => by rw [List.mem_singleton.1 hp]; exact h
  | q :: q2 :: r, h, p, hp => by
    rcases List.mem_cons.1 hp with rfl | hp
    · exact h.1
    · exact allD_mem h.2 p hp
def notG : Option Prop → Prop
  | none => False
  | some g => ¬ g
def offAll {α : Type _} (g : α → Option Prop) (i : Nat) : Nat → List α → Prop → Prop
  | _, [], R => R
  | k, p :: r, R => match Nat.beq k i with
    | true => offAll g i (k + 1) r R
    | false => notG (g p) ∧ offAll g i (k + 1) r R
theorem offAll_ok {α : Type _} {g : α → Option Prop} {i : Nat} {R : Prop} : ∀ {l : List α} {k : Nat}, offAll g i k l R → R ∧ ∀ j p, l[j]? = some p → k + j ≠ i → notG (g p)
  | [], k, h => ⟨h, fun j p hp => by simp at hp⟩
  | q :: r, k, h => by
    unfold offAll at h
    split at h
    · rename_i hb
      obtain ⟨h1, h2⟩ := offAll_ok h
      refine ⟨h1, fun j p hp hne => ?_⟩
      cases j with
      | zero => exact absurd (Nat.eq_of_beq_eq_true hb) (by simpa using hne)
      | succ j => exact h2 j p (by simpa using hp) (by omega)
    · obtain ⟨h0, h⟩ := h
      obtain ⟨h1, h2⟩ := offAll_ok h
      refine ⟨h1, fun j p hp hne => ?_⟩
      cases j with
      | zero => simp at hp; subst hp; exact h0
      | succ j => exact h2 j p (by simpa using hp) (by omega)
def pickOr {α : Type _} (g : α → Option Prop) (pk : Option Nat) (K : List α → Prop) (l : List α) : Prop := match pk with
  | none => K l
  | some i => match l[i]? with
    | none => False
    | some p => offAll g i 0 l (K [p])
theorem pickOr_ok {α : Type _} {g : α → Option Prop} {pk : Option Nat} {K : List α → Prop} {l : List α} (h : pickOr g pk K l) : ∀ p ∈ l, holdsP (g p) → ∃ l', K l' ∧ p ∈ l' := by
  intro p hp hg
  unfold pickOr at h
  split at h
  · exact ⟨l, h, hp⟩
  · rename_i i
    split at h
    · exact h.elim
    · rename_i q hq
      obtain ⟨h1, h2⟩ := offAll_ok h
      obtain ⟨j, hj⟩ := List.getElem?_of_mem hp
      by_cases e : j = i
      · subst e
        rw [hj] at hq; cases hq
        exact ⟨_, h1, by simp⟩
      · have := h2 j p hj (by omega)
        revert this hg
        cases g p with
        | none => exact fun _ h => h.elim
        | some x => exact fun h1 h2 => (h2 h1).elim
def pickAt (pks : List (Nat × Nat)) (d : Option Tmp) : Option Nat := match d with
  | none => none
  | some t => match pks.find? (fun p => Nat.beq p.1 t) with
    | some p => some p.2
    | none => none
abbrev Kn := List (Nat × Bool)
def KnOk (kn : Kn) (s : S) : Prop := ∀ p ∈ kn, ∃ e : B, s.tmp p.1 = .val (.one (.bool e)) ∧ e.v = p.2
def knAt : Kn → Nat → Option Bool
  | [], _ => none
  | p :: r, t => if Nat.beq p.1 t then some p.2 else knAt r t
theorem knAt_ok : ∀ {kn : Kn} {s : S} {t : Nat} {b : Bool}, KnOk kn s → knAt kn t = some b → ∃ e : B, s.tmp t = .val (.one (.bool e)) ∧ e.v = b
  | p :: r, s, t, b, h, hk => by
    unfold knAt at hk
    split at hk
    · rename_i e; cases hk; rw [← Nat.eq_of_beq_eq_true e]; exact h p (by simp)
    · exact knAt_ok (fun q hq => h q (by simp [hq])) hk
def knOff (kn : Kn) (d : Option Tmp) : Kn := match d with
  | none => kn
  | some t => kn.filter fun p => !Nat.beq p.1 t
theorem knOff_ok {kn : Kn} {s : S} (h : KnOk kn s) (d : Option Tmp) (v : V) (f : Nat → Option Ob) : KnOk (knOff kn d) ⟨upd s.tmp (look (wrT d v)), f⟩ := by
  intro p hp
  cases d with
  | none => exact h p hp
  | some t =>
    simp only [knOff, List.mem_filter, Bool.not_eq_true'] at hp
    obtain ⟨e, h1, h2⟩ := h p hp.1
    refine ⟨e, ?_, h2⟩
    simp only [wrT, upd_one]
    rw [if_neg (fun e2 => by rw [e2, Nat.beq_refl] at hp; exact absurd hp.2 (by simp))]
    exact h1
def noBool : Value → Bool
  | .bool _ => false
  | _ => true
def wantedBy (ops : List Oper) (s : S) (kn : Kn) (o : Oper) : Option (List (Option Prop × Bool × Kn)) :=
  match o.guard with
  | none => some [(none, true, kn)]
  | some (j, want) => match (ops[j]?).bind (·.dst) with
    | none => none
    | some t => match knAt kn t with
      | some b => some [(none, b == want, kn)]
      | none => match s.tmp t with
        | .val (.one (.bool (.lit b))) => some [(none, b == want, kn)]
        | .val (.one (.bool (.tm c))) => some [(some (c = true), true == want, (t, true) :: kn), (some (c = false), false == want, (t, false) :: kn)]
        | .val (.one (.cst v)) => (match noBool v with
          | true => some [(none, false, kn)]
          | false => none)
        | _ => none
def allG (K : Bool → Kn → Prop) : List (Option Prop × Bool × Kn) → Prop
  | [] => True
  | [p] => impP p.1 (K p.2.1 p.2.2)
  | p :: q :: r => impP p.1 (K p.2.1 p.2.2) ∧ allG K (q :: r)
theorem allG_mem {K : Bool → Kn → Prop} : ∀ {l : List (Option Prop × Bool × Kn)}, allG K l → ∀ p ∈ l, impP p.1 (K p.2.1 p.2.2)
  | [], _, p, hp => by cases hp
  | [q], h, p, hp => by rw [List.mem_singleton.1 hp]; exact h
  | q :: q2 :: r, h, p, hp => by
    rcases List.mem_cons.1 hp with rfl | hp
    · exact h.1
    · exact allG_mem h.2 p hp
section
variable {P : Program} {X : Cx}
theorem wantedBy_ok {ops : Array Oper} {s : S} {kn : Kn} (hkn : KnOk kn s) {o : Oper} {l : List (Option Prop × Bool × Kn)} (h : wantedBy ops.toList s kn o = some l) :
    ∃ p ∈ l, holdsP p.1 ∧ KnOk p.2.2 s ∧ ∀ D s2 a w, Rep X D s2 a w → (∀ t ∈ o.looksAt ops, s2.tmp t = s.tmp t) → Region.wanted o (yielded ops a.tmps) = p.2.1 := by
  unfold wantedBy at h
  split at h
  · rename_i hg
    cases h
    exact ⟨_, List.mem_singleton.2 rfl, trivial, hkn, fun D s2 a w _ _ => by simp [Region.wanted, hg]⟩
  · rename_i j want hg
    split at h
    · cases h
    · rename_i t ht
      have ht' : (ops[j]?).bind (·.dst) = some t := by rw [← Array.getElem?_toList]; exact ht
      have hlook : t ∈ o.looksAt ops := by unfold Oper.looksAt; rw [hg]; simp [ht']
      have key : ∀ e, s.tmp t = .val (.one (.bool e)) → ∀ D s2 a w, Rep X D s2 a w → (∀ t ∈ o.looksAt ops, s2.tmp t = s.tmp t) → Region.wanted o (yielded ops a.tmps) = (e.v == want) := by
        intro e he D s2 a w hR hag
        obtain ⟨_, β, _, hB⟩ := hR
        have h1 := hB.tmps t
        rw [hag t hlook, he] at h1
        have h2 : a.tmps.getD t undef = .bool e.v := h1
        have h3 : a.tmps[t]? = some (.bool e.v) := by
          rw [Array.getD_eq_getD_getElem?] at h2
          cases h4 : a.tmps[t]? with
          | none => rw [h4] at h2; cases h2
          | some u => rw [h4] at h2; simp at h2; rw [h2]
        unfold Region.wanted yielded
        simp only [hg, ht', Option.bind_some, h3]
        cases e.v <;> cases want <;> rfl
      split at h
      · rename_i b hb
        cases h
        obtain ⟨e, h1, h2⟩ := knAt_ok hkn hb
        exact ⟨_, List.mem_singleton.2 rfl, trivial, hkn, fun D s2 a w hR hag => by rw [key _ h1 D s2 a w hR hag, h2]⟩
      · split at h
        · rename_i b he
          cases h
          exact ⟨_, List.mem_singleton.2 rfl, trivial, hkn, fun D s2 a w hR hag => key _ he D s2 a w hR hag⟩
        · rename_i c he
          cases h
          have hk := key _ he
          have hcc : c = true ∨ c = false := by cases c <;> simp
          have hadd : ∀ b, c = b → KnOk ((t, b) :: kn) s := fun b hb p hp => by
            rcases List.mem_cons.1 hp with rfl | hp
            · exact ⟨.tm c, he, hb⟩
            · exact hkn p hp
          rcases hcc with hc | hc
          · exact ⟨_, List.mem_cons_self, hc, hadd true hc, fun D s2 a w hR hag => by rw [hk D s2 a w hR hag]; simp only [B.v, hc]⟩
          · exact ⟨_, List.mem_cons_of_mem _ List.mem_cons_self, hc, hadd false hc, fun D s2 a w hR hag => by rw [hk D s2 a w hR hag]; simp only [B.v, hc]⟩
        · rename_i v he
          split at h
          · rename_i hv
            cases h
            refine ⟨_, List.mem_singleton.2 rfl, trivial, hkn, fun D s2 a w hR hag => ?_⟩
            obtain ⟨_, β, _, hB⟩ := hR
            have h1 := hB.tmps t
            rw [hag t hlook, he] at h1
            have h2 : a.tmps.getD t undef = v := h1
            unfold Region.wanted yielded
            simp only [hg, ht', Option.bind_some]
            cases h4 : a.tmps[t]? with
            | none => cases want <;> rfl
            | some u =>
              rw [Array.getD_eq_getD_getElem?, h4] at h2
              simp at h2
              subst h2
              cases u <;> first | (cases hv; done) | (cases want <;> rfl)
          · cases h
        · cases h

def opnd (G : List (Nat × List L)) (s : S) : Operand → Option V
  | .tmp t => some (s.tmp t)
  | .const v => match ofVal v with
    | some w => some (.val w)
    | none => none
  | .global g => match G.findIdx? (fun p => Nat.beq p.1 g) with
    | some i => some (.val (.one (.ptr i 0)))
    | none => none
  | .func f => some (.val (.one (.cst (.func (.func f) #[] #[]))))
theorem opnd_ok {D : Dx} {β : Bm} {s : S} {a : Act} {w : World} (h : RepB X D β s a w) {x : Operand} {v : V} (ho : opnd X.G s x = some v) : v.rel β (a.eval x) := by
  cases x with
  | tmp t => simp only [opnd, Option.some.injEq] at ho; subst ho; exact h.tmps t
  | const u =>
    simp only [opnd] at ho
    split at ho
    · rename_i w' hw; cases ho; exact ofVal_ok hw
    · cases ho
  | global g =>
    simp only [opnd] at ho
    split at ho
    · rename_i i hi
      cases ho
      obtain ⟨hlt, hp, _⟩ := List.findIdx?_eq_some_iff_getElem.1 hi
      have := h.glob i _ (List.getElem?_eq_getElem hlt)
      rw [Nat.eq_of_beq_eq_true hp] at this
      exact ⟨g, this.1, rfl⟩
    · cases ho
  | func f => simp only [opnd, Option.some.injEq] at ho; subst ho; rfl
def opndK (G : List (Nat × List L)) (s : S) (kn : Kn) (x : Operand) : Option V := match x with
  | .tmp t => (match knAt kn t with
    | some b => some (.val (.one (.bool (.lit b))))
    | none => some (s.tmp t))
  | x => opnd G s x
theorem opndK_ok {D : Dx} {β : Bm} {s : S} {a : Act} {w : World} (h : RepB X D β s a w) {kn : Kn} (hkn : KnOk kn s) {x : Operand} {v : V} (ho : opndK X.G s kn x = some v) : v.rel β (a.eval x) := by
  unfold opndK at ho
  split at ho
  · rename_i t
    split at ho
    · rename_i b hb
      cases ho
      obtain ⟨e, h1, h2⟩ := knAt_ok hkn hb
      have h3 := h.tmps t
      rw [h1] at h3
      have h4 : a.tmps.getD t undef = .bool e.v := h3
      show a.tmps.getD t undef = .bool b
      rw [h4, h2]
    · cases ho; exact h.tmps t
  · exact opnd_ok h ho
def argsOf (G : List (Nat × List L)) (s : S) (kn : Kn) : List Operand → Option (List V)
  | [] => some []
  | x :: xs => match opndK G s kn x, argsOf G s kn xs with
    | some v, some vs => some (v :: vs)
    | _, _ => none
theorem argsOf_ok {D : Dx} {β : Bm} {s : S} {a : Act} {w : World} (h : RepB X D β s a w) {kn : Kn} : ∀ {xs : List Operand} {vs : List V}, (∀ t, Operand.tmp t ∈ xs → ∀ b, knAt kn t = some b → ∃ e : B, s.tmp t = .val (.one (.bool e)) ∧ e.v = b) → argsOf X.G s kn xs = some vs → All2 (V.rel β) vs (xs.map a.eval)
  | [], vs, _, ho => by simp [argsOf] at ho; subst ho; trivial
  | x :: xs, vs, hk, ho => by
    unfold argsOf at ho
    split at ho
    · rename_i v vs' h1 h2
      cases ho
      refine ⟨?_, argsOf_ok h (fun t ht => hk t (List.mem_cons_of_mem _ ht)) h2⟩
      unfold opndK at h1
      split at h1
      · rename_i t
        split at h1
        · rename_i b hb
          cases h1
          obtain ⟨e, q1, q2⟩ := hk t List.mem_cons_self b hb
          have h3 := h.tmps t
          rw [q1] at h3
          have h4 : a.tmps.getD t undef = .bool e.v := h3
          show a.tmps.getD t undef = .bool b
          rw [h4, q2]
        · cases h1; exact h.tmps t
      · exact opnd_ok h h1
    · cases ho
theorem argsOf_congr {s s2 : S} {kn : Kn} : ∀ {xs : List Operand}, (∀ t, Operand.tmp t ∈ xs → s2.tmp t = s.tmp t) → argsOf X.G s2 kn xs = argsOf X.G s kn xs
  | [], _ => rfl
  | x :: xs, h => by
    unfold argsOf
    rw [argsOf_congr (xs := xs) (fun t ht => h t (List.mem_cons_of_mem _ ht))]
    have : opndK X.G s2 kn x = opndK X.G s kn x := by
      cases x with
      | tmp t => simp only [opndK, h t List.mem_cons_self]
      | _ => rfl
    rw [this]

def wrOf (ops : Array Oper) (o : Oper) (e : Eff) : Wr V (Option Ob) := ⟨wrT o.dst e.v, e.wr, o.looksAt ops, e.rd ++ e.wr.map (·.1)⟩
def OpStep (P : Program) (X : Cx) (ops : Array Oper) (o : Oper) (s : S) (wr : Wr V (Option Ob)) : Prop :=
  ∀ D s2, Agree wr s2 s → ∀ a w, Rep X D s2 a w → ∀ (K : Act → World → Prop) (Q : Exit → Act → World → Prop), (∀ a' w', Rep X D (s2.app wr) a' w' → K a' w') →
    if Region.wanted o (yielded ops a.tmps) then o.wp P a w K Q else K (a.put o.dst undef) w
def bareNeeds (c : Bool) : List V → Option Prop
  | [] => none
  | v :: vs => and2 (needP true c (bare v).2) (bareNeeds c vs)
def condNeed (c : Bool) : Option Prop → Option Prop
  | none => none
  | some n => some (c = true → n)
def guardC (ops : List Oper) (s : S) (kn : Kn) (o : Oper) : Option Bool := match o.guard with
  | none => none
  | some (j, want) => match (ops[j]?).bind (·.dst) with
    | none => none
    | some t => match knAt kn t, s.tmp t with
      | none, .val (.one (.bool (.tm c))) => (match want with
        | true => some c
        | false => some (!c))
      | none, .opt d (.val (.one (.bool (.tm c)))) => (match want with
        | true => some (d && c)
        | false => some (d && !c))
      | _, _ => none
def sBare : Op → List V → List V
  | .pick _ _ _, v :: r => (bare v).1 :: r
  | _, args => args.map fun v => (bare v).1
def sNeeds (c : Bool) : Op → List V → Option Prop
  | .pick _ _ _, v :: _ => needP true c (bare v).2
  | _, args => bareNeeds c args
def specOf (P : Program) (G : List (Nat × List L)) (call : CallH) (s : S) (kn : Kn) (o : Oper) (fresh : Nat) (c : Bool) : Option (Option Prop × Eff) :=
  match argsOf G s kn o.op.operands.toList with
  | none => none
  | some args => match effs P call o.op (sBare o.op args) s fresh with
    | some [p] => (match p.g, p.e with
      | none, .det ⟨v, rd, []⟩ => some (and2 (sNeeds c o.op args) (condNeed c p.need), ⟨v, rd, []⟩)
      | _, _ => none)
    | _ => none
theorem guardC_ok {ops : Array Oper} {s : S} {kn : Kn} {o : Oper} {c : Bool} (h : guardC ops.toList s kn o = some c) : ∀ D s2 a w, Rep X D s2 a w → (∀ t ∈ o.looksAt ops, s2.tmp t = s.tmp t) → Region.wanted o (yielded ops a.tmps) = c := by
  unfold guardC at h
  split at h
  · cases h
  · rename_i j want hg
    split at h
    · cases h
    · rename_i t ht
      have ht' : (ops[j]?).bind (·.dst) = some t := by rw [← Array.getElem?_toList]; exact ht
      have hlook : t ∈ o.looksAt ops := by unfold Oper.looksAt; rw [hg]; simp [ht']
      split at h
      · rename_i c0 _ he
        intro D s2 a w hR hag
        obtain ⟨_, β, _, hB⟩ := hR
        have h1 := hB.tmps t
        rw [hag t hlook, he] at h1
        have h2 : a.tmps.getD t undef = .bool c0 := h1
        have h3 : a.tmps[t]? = some (.bool c0) := by
          rw [Array.getD_eq_getD_getElem?] at h2
          cases h4 : a.tmps[t]? with
          | none => rw [h4] at h2; cases h2
          | some u => rw [h4] at h2; simp at h2; rw [h2]
        unfold Region.wanted yielded
        simp only [hg, ht', Option.bind_some, h3]
        cases want <;> simp only [Option.some.injEq] at h <;> subst h <;> cases c0 <;> rfl
      · rename_i d c0 _ he
        intro D s2 a w hR hag
        obtain ⟨_, β, _, hB⟩ := hR
        have h1 := hB.tmps t
        rw [hag t hlook, he] at h1
        have h2 : ∀ v, a.tmps.getD t undef = v → a.tmps[t]? = some v ∨ (a.tmps[t]? = none ∧ v = undef) := fun v hv => by
          rw [Array.getD_eq_getD_getElem?] at hv
          cases h4 : a.tmps[t]? with
          | none => rw [h4] at hv; exact .inr ⟨rfl, hv.symm⟩
          | some u => rw [h4] at hv; simp at hv; exact .inl (by rw [hv])
        have hw : c = true ↔ (d = true ∧ c0 = want) := by
          cases want <;> simp only [Option.some.injEq] at h <;> subst h <;> cases d <;> cases c0 <;> simp
        have e : c = (d && (c0 == want)) := by
          cases want <;> simp only [Option.some.injEq] at h <;> subst h <;> cases d <;> cases c0 <;> rfl
        rw [e]
        unfold Region.wanted yielded
        simp only [hg, ht', Option.bind_some]
        cases hd : d with
        | true =>
          rcases h2 _ (h1.1 hd) with h3 | ⟨_, h3⟩
          · rw [h3]; cases c0 <;> cases want <;> rfl
          · cases h3
        | false =>
          rcases h2 _ (h1.2 hd) with h3 | ⟨h3, _⟩
          · rw [h3]; cases want <;> rfl
          · rw [h3]; cases want <;> rfl
      · cases h
theorem bareNeeds_ok {c : Bool} : ∀ {vs : List V}, holdsP (bareNeeds c vs) → c = true → ∀ {β : Bm} {xs : List Value}, All2 (V.rel β) vs xs → All2 (V.rel β) (vs.map fun v => (bare v).1) xs
  | [], _, _, β, [], _ => trivial
  | v :: vs, h, hc, β, x :: xs, hx => by
    obtain ⟨h1, h2⟩ := and2_ok h
    exact ⟨bare_ok hx.1 (needP_ok h1 hc), bareNeeds_ok h2 hc hx.2⟩
  | [], _, _, _, _ :: _, h => h.elim
  | _ :: _, _, _, _, [], h => h.elim
theorem sNeeds_ok {c : Bool} {op : Op} {vs : List V} (h : holdsP (sNeeds c op vs)) (hc : c = true) {β : Bm} {xs : List Value} (hx : All2 (V.rel β) vs xs) : All2 (V.rel β) (sBare op vs) xs := by
  by_cases hp : ∃ a b d v r, op = .pick a b d ∧ vs = v :: r
  · obtain ⟨a, b, d, v, r, rfl, rfl⟩ := hp
    cases xs with
    | nil => exact hx.elim
    | cons x xs => exact ⟨bare_ok hx.1 (needP_ok h hc), hx.2⟩
  · have e1 : sBare op vs = vs.map fun v => (bare v).1 := by
      unfold sBare
      split
      · exact absurd ⟨_, _, _, _, _, rfl, rfl⟩ hp
      · rfl
    have e2 : sNeeds c op vs = bareNeeds c vs := by
      unfold sNeeds
      split
      · exact absurd ⟨_, _, _, _, _, rfl, rfl⟩ hp
      · rfl
    rw [e1]
    rw [e2] at h
    exact bareNeeds_ok h hc hx
theorem condNeed_ok {c : Bool} {n : Option Prop} (h : holdsP (condNeed c n)) (hc : c = true) : holdsP n := by
  cases n with
  | none => trivial
  | some p => exact h hc
theorem rep_less {D : Dx} {s : S} {a : Act} {w : World} {d : Option Tmp} {v v' : V} {f : Nat → Option Ob} (hv : ∀ β x, v.rel β x → v'.rel β x) (h : Rep X D ⟨upd s.tmp (look (wrT d v)), f⟩ a w) : Rep X D ⟨upd s.tmp (look (wrT d v')), f⟩ a w := by
  obtain ⟨hc, β, hb, hB⟩ := h
  refine ⟨hc, β, hb, { hB with tmps := fun t => ?_ }⟩
  have := hB.tmps t
  cases d with
  | none => exact this
  | some u =>
    simp only [wrT, upd_one] at this ⊢
    split
    · rename_i e; rw [if_pos e] at this; exact hv _ _ this
    · rename_i e; rw [if_neg e] at this; exact this
theorem spec_step {call : CallH} (hcall : CallHOk P X call) {ops : Array Oper} {ts : List V} {ms : List Ob} {kn : Kn} (hkn : KnOk kn (view ⟨ts, ms⟩)) {o : Oper} {c : Bool} (hg : guardC ops.toList (view ⟨ts, ms⟩) kn o = some c)
    {n : Option Prop} {e : Eff} (h : specOf P X.G call (view ⟨ts, ms⟩) kn o ms.length c = some (n, e)) (hn : holdsP n) (hd : ∀ t, o.dst = some t → t < X.n) : OpStep P X ops o (view ⟨ts, ms⟩) (wrOf ops o ⟨.opt c e.v, e.rd, []⟩) := by
  unfold specOf at h
  split at h
  · cases h
  · rename_i args hargs
    split at h
    · rename_i p hp
      obtain ⟨pg, pn, pe⟩ := p
      simp only at h
      split at h
      · rename_i v rd
        cases h
        obtain ⟨hn1, hn2⟩ := and2_ok hn
        have hfree : ∀ i, ms.length ≤ i → (view ⟨ts, ms⟩).blk i = none := fun i hi => by simp [view, hi]
        obtain ⟨q, hqm, _, hqe⟩ := effs_ok (X := X) hcall hfree hp
        rw [List.mem_singleton.1 hqm] at hqe
        have hqe : holdsP pn → EffOk P X o.op _ _ ⟨v, rd, []⟩ := hqe
        intro D s2 hag a w hR K Q hK
        rw [guardC_ok hg D s2 a w hR hag.1]
        have hlk : ∀ t, Operand.tmp t ∈ o.op.operands.toList → t ∈ o.looksAt ops := fun t ht => by
          unfold Oper.looksAt
          exact List.mem_append_left _ (List.mem_filterMap.2 ⟨.tmp t, ht, rfl⟩)
        have hst : s2.app (wrOf ops o ⟨.opt c v, rd, []⟩) = ⟨upd s2.tmp (look (wrT o.dst (.opt c v))), s2.blk⟩ := rfl
        cases hc : c with
        | true =>
          rw [if_pos rfl]
          obtain ⟨hC0, β, hb0, hB⟩ := hR
          refine hqe (condNeed_ok hn2 hc) o rfl hd D s2 a w β hC0 hb0 hB ?_ (fun id hid => hag.2 id (by simp [wrOf, hid])) (fun r hr => by cases hr) K Q (fun a' w' hR' => hK a' w' ?_)
          · refine sNeeds_ok hn1 hc (argsOf_ok hB (kn := kn) (fun t ht b hb => ?_) ?_)
            · rw [hag.1 t (hlk t ht)]; exact knAt_ok hkn hb
            · rw [argsOf_congr (s := view ⟨ts, ms⟩) (fun t ht => hag.1 t (hlk t ht))]
              exact hargs
          · rw [hst]
            exact rep_less (v := v) (v' := .opt c v) (fun β x hx => ⟨fun _ => hx, fun h => by rw [hc] at h; cases h⟩) hR'
        | false =>
          simp only [Bool.false_eq_true, if_false]
          obtain ⟨hcc, β, hb, hB⟩ := hR
          refine hK _ _ ?_
          rw [hst]
          exact ⟨hcc, β, hb, hB.put hd (v := .opt c v) ⟨fun h => (by rw [hc] at h; cases h), fun _ => rfl⟩⟩
      · cases h
    · cases h
def openAt (ops : List Oper) (rl : Oper → Bool) (pi : List Nat) (p : Nat) : Bool := match pi[p]? with
  | some i => match ops[i]? with
    | some o => rl o
    | none => false
  | none => false
def chkOpen {α β : Type} (bs : List Nat) (i : Nat) (w0 : Wr α β) : List Nat → List (Wr α β) → Bool
  | j :: js, v :: vs => (!conf v w0 || waits bs i j) && chkOpen bs i w0 js vs
  | _, _ => true
theorem chkOpen_ok {α β : Type} {bs : List Nat} {i : Nat} {w0 : Wr α β} : ∀ {js : List Nat} {vs : List (Wr α β)}, chkOpen bs i w0 js vs = true → ∀ (q j : Nat) (v : Wr α β), js[q]? = some j → vs[q]? = some v → conf v w0 = true → waits bs i j = true
  | j0 :: js, v0 :: vs, h, 0, j, v, hj, hv, hc => by
    simp only [chkOpen, Bool.and_eq_true] at h
    simp at hj hv; subst hj; subst hv
    rw [hc] at h; simpa using h.1
  | j0 :: js, v0 :: vs, h, q + 1, j, v, hj, hv, hc => by
    simp only [chkOpen, Bool.and_eq_true] at h
    exact chkOpen_ok h.2 q j v (by simpa using hj) (by simpa using hv) hc
  | [], _, _, _, _, _, hj, _, _ => by simp at hj
  | _ :: _, [], _, _, _, _, _, hv, _ => by simp at hv
def wr0 (ops : Array Oper) (o : Oper) (ids : List Nat) : Wr V (Option Ob) := ⟨[], [], o.looksAt ops, ids⟩
def outR (ok : Option (List Nat → Bool)) (K : Eff → Prop) (p : Ef) : Prop := match ok with
  | none => (match p with
    | .det e => K e
    | .rel _ _ _ _ _ => False)
  | some f => (match p with
    | .det e => (match f (e.rd ++ e.wr.map (·.1)) with
      | true => K e
      | false => False)
    | .rel _ rd wi post e => (match f (rd ++ wi) with
      | true => ∀ x, impP (post x) (K ⟨(e x).1, rd, (e x).2⟩)
      | false => False))
def allR (ok : Option (List Nat → Bool)) (K : Eff → Prop) : List Path → Prop
  | [] => True
  | [p] => impP p.g (andP p.need (outR ok K p.e))
  | p :: q :: r => impP p.g (andP p.need (outR ok K p.e)) ∧ allR ok K (q :: r)
theorem allR_mem {ok : Option (List Nat → Bool)} {K : Eff → Prop} : ∀ {l : List Path}, allR ok K l → ∀ p ∈ l, impP p.g (andP p.need (outR ok K p.e))
  | [], _, p, hp => by cases hp
  | [q], h, p, hp => by rw [List.mem_singleton.1 hp]; exact h
  | q :: q2 :: r, h, p, hp => by
    rcases List.mem_cons.1 hp with rfl | hp
    · exact h.1
    · exact allR_mem h.2 p hp
def dstIn (n : Nat) : Option Tmp → Bool
  | some t => Nat.blt t n
  | none => true
theorem dstIn_ok {n : Nat} {d : Option Tmp} (h : dstIn n d = true) : ∀ t, d = some t → t < n := fun t ht => by subst ht; simpa [dstIn] using h
def okFor (n : Nat) (ops : Array Oper) (pi : List Nat) (rl : Oper → Bool) (o : Oper) (i : Nat) (acc : List (Wr V (Option Ob))) : Option (List Nat → Bool) := match rl o with
  | true => some fun ids => dstIn n o.dst && (orderedG (befores ops.toList) pi acc && chkOpen (befores ops.toList) i (wr0 ops o ids) pi acc)
  | false => none
noncomputable def runOps (P : Program) (G : List (Nat × List L)) (call : CallH) (n : Nat) (ops : Array Oper) (pi : List Nat) (rl : Oper → Bool) (pks : List (Nat × Nat)) (K : List V → List Ob → List (Wr V (Option Ob)) → Prop) : List Nat → Kn → List V → List Ob → List (Wr V (Option Ob)) → Prop
  | [], _, ts, ms, acc => K ts ms acc
  | i :: rest, kn, ts, ms, acc => match ops.toList[i]? with
    | none => False
    | some o => match (match rl o with
      | true => none
      | false => (match guardC ops.toList (view ⟨ts, ms⟩) kn o with
        | none => none
        | some c => (match specOf P G call (view ⟨ts, ms⟩) kn o ms.length c with
          | none => none
          | some q => (match appT n ts o.dst (.opt c q.2.v) with
            | none => none
            | some ts' => some (c, q, ts'))))) with
      | some (c, q, ts') => andP q.1 (runOps P G call n ops pi rl pks K rest (knOff kn o.dst) ts' ms (acc ++ [wrOf ops o ⟨.opt c q.2.v, q.2.rd, []⟩]))
      | none => match wantedBy ops.toList (view ⟨ts, ms⟩) kn o with
        | none => False
        | some l => allG (fun want kn' => match want with
          | true => (match argsOf G (view ⟨ts, ms⟩) kn' o.op.operands.toList with
            | none => False
            | some args => (match effsB P call o.op o.type args (view ⟨ts, ms⟩) ms.length with
              | none => False
              | some ps => pickOr Path.g (pickAt pks o.dst) (allR (okFor n ops pi rl o i acc) (fun e => match appT n ts o.dst e.v, appM ms e.wr with
                | some ts', some ms' => runOps P G call n ops pi rl pks K rest (knOff kn' o.dst) ts' ms' (acc ++ [wrOf ops o e])
                | _, _ => False)) ps))
          | false => outR (okFor n ops pi rl o i acc) (fun e => match appT n ts o.dst e.v, appM ms e.wr with
                | some ts', some ms' => runOps P G call n ops pi rl pks K rest (knOff kn' o.dst) ts' ms' (acc ++ [wrOf ops o e])
                | _, _ => False) (.det ⟨undefV, [], []⟩)) l

theorem textSt_cons {α β : Type} (s0 : SS α β) (w : Wr α β) (ws : List (Wr α β)) : ∀ i, textSt s0 (w :: ws) (i + 1) = textSt (s0.app w) ws i
  | 0 => rfl
  | i + 1 => by
    rw [textSt, textSt_cons s0 w ws i]
    simp only [List.getElem?_cons_succ, textSt]
theorem view_free (ts : List V) (ms : List Ob) : ∀ i, ms.length ≤ i → (view ⟨ts, ms⟩).blk i = none := fun i hi => by simp [view, hi]
def closedAt (ops : Array Oper) (rl : Oper → Bool) (rest : List Nat) (q : Nat) : Prop := ∀ i o, rest[q]? = some i → ops.toList[i]? = some o → rl o = false
structure Stage (P : Program) (X : Cx) (ops : Array Oper) (pi : List Nat) (rl : Oper → Bool) (K : List V → List Ob → List (Wr V (Option Ob)) → Prop) (rest : List Nat) (s0 : S) (acc : List (Wr V (Option Ob))) (WS : List (Wr V (Option Ob)) → Prop) : Prop where
  len : ∀ ws, WS ws → ws.length ≤ rest.length ∧ (ws.length < rest.length → (∃ i o, rest[ws.length]? = some i ∧ ops.toList[i]? = some o ∧ rl o = true) ∧ orderedG (befores ops.toList) pi (acc ++ ws) = true)
  fin : ∀ ws, WS ws → ws.length = rest.length → ∃ ts' ms', K ts' ms' (acc ++ ws) ∧ ts'.length = X.n ∧ textSt s0 ws rest.length = view ⟨ts', ms'⟩
  det : ∀ ws, WS ws → ∀ (p : Nat) (w : Wr V (Option Ob)), ws[p]? = some w → ∃ i o, rest[p]? = some i ∧ ops.toList[i]? = some o ∧ (rl o = false → OpStep P X ops o (textSt s0 ws p) w)
  opn : ∀ ws, WS ws → ∀ i, rest[ws.length]? = some i → ∃ o ids, ops.toList[i]? = some o ∧ chkOpen (befores ops.toList) i (wr0 ops o ids) pi (acc ++ ws) = true ∧
    ∀ D s2, Agree (wr0 ops o ids) s2 (textSt s0 ws ws.length) → ∀ a w, Rep X D s2 a w → ∀ (Kc : Act → World → Prop) (Q : Exit → Act → World → Prop),
      (∀ ws' v, WS ws' → (∀ q, q < ws.length → ws'[q]? = ws[q]?) → ws'[ws.length]? = some v → (∀ q, ws.length < q → q < ws'.length → closedAt ops rl rest q) → ∀ a' w', Rep X D (s2.app v) a' w' → Kc a' w') →
      if Region.wanted o (yielded ops a.tmps) then o.wp P a w Kc Q else Kc (a.put o.dst undef) w
  ini : ∃ ws, WS ws ∧ ∀ p, p < ws.length → closedAt ops rl rest p
theorem Stage.nil {ops : Array Oper} {pi : List Nat} {rl : Oper → Bool} {K : List V → List Ob → List (Wr V (Option Ob)) → Prop} {ts : List V} {ms : List Ob} {acc : List (Wr V (Option Ob))} (h : K ts ms acc) (hn : ts.length = X.n) : Stage P X ops pi rl K [] (view ⟨ts, ms⟩) acc (fun ws => ws = []) :=
  ⟨fun ws hw => by subst hw; exact ⟨Nat.le_refl _, fun h => absurd h (Nat.lt_irrefl _)⟩, fun ws hw _ => by subst hw; exact ⟨ts, ms, by simpa using h, hn, rfl⟩, fun ws hw p w hp => by subst hw; simp at hp, fun ws hw i hi => by subst hw; simp at hi, ⟨[], rfl, fun p hp => by simp at hp⟩⟩
theorem Stage.cons {ops : Array Oper} {pi : List Nat} {rl : Oper → Bool} {K : List V → List Ob → List (Wr V (Option Ob)) → Prop} {i : Nat} {rest : List Nat} {s0 s1 : S} {acc : List (Wr V (Option Ob))} {o : Oper} {w : Wr V (Option Ob)} {WS : List (Wr V (Option Ob)) → Prop}
    (ho : ops.toList[i]? = some o) (hr : rl o = false) (hs : s0.app w = s1) (hstep : OpStep P X ops o s0 w) (h : Stage P X ops pi rl K rest s1 (acc ++ [w]) WS) : Stage P X ops pi rl K (i :: rest) s0 acc (fun ws => ∃ ws1, WS ws1 ∧ ws = w :: ws1) := by
  have ht : ∀ ws1 n, textSt s0 (w :: ws1) (n + 1) = textSt s1 ws1 n := fun ws1 n => by rw [textSt_cons, hs]
  refine ⟨?_, ?_, ?_, ?_, ?_⟩
  · rintro ws ⟨ws1, h1, rfl⟩
    obtain ⟨k1, k2⟩ := h.len ws1 h1
    refine ⟨by simpa using k1, fun hl => ?_⟩
    obtain ⟨k3, k4⟩ := k2 (by simpa using hl)
    exact ⟨by simpa using k3, by simpa using k4⟩
  · rintro ws ⟨ws1, h1, rfl⟩ hl
    obtain ⟨ts', ms', k1, k2, k3⟩ := h.fin ws1 h1 (by simpa using hl)
    exact ⟨ts', ms', by simpa using k1, k2, by rw [List.length_cons, ht]; exact k3⟩
  · rintro ws ⟨ws1, h1, rfl⟩ p w' hp
    cases p with
    | zero => simp at hp; subst hp; exact ⟨i, o, rfl, ho, fun _ => hstep⟩
    | succ p =>
      obtain ⟨i', o', k1, k2, k3⟩ := h.det ws1 h1 p w' (by simpa using hp)
      exact ⟨i', o', by simpa using k1, k2, fun hh => by rw [ht]; exact k3 hh⟩
  · rintro ws ⟨ws1, h1, rfl⟩ i' hi'
    obtain ⟨o', ids, k1, k2, k3⟩ := h.opn ws1 h1 i' (by simpa using hi')
    refine ⟨o', ids, k1, by simpa using k2, fun D s2 hag a wd hR Kc Q hK => ?_⟩
    refine k3 D s2 (by rw [List.length_cons, ht] at hag; exact hag) a wd hR Kc Q (fun ws' v q1 q2 q3 q4 a' w' hR' => hK (w :: ws') v ⟨ws', q1, rfl⟩ (fun q hq => ?_) (by simpa using q3) (fun q hq hq2 => ?_) a' w' hR')
    · cases q with
      | zero => rfl
      | succ q => simpa using q2 q (by simpa using hq)
    · cases q with
      | zero => simp at hq
      | succ q =>
        intro j o'' hj
        exact q4 q (by simpa using hq) (by simpa using hq2) j o'' (by simpa using hj)
  · obtain ⟨ws1, h1, h2⟩ := h.ini
    refine ⟨w :: ws1, ⟨ws1, h1, rfl⟩, fun p hp => ?_⟩
    cases p with
    | zero =>
      intro j o' hj ho'
      simp at hj; subst hj
      rw [ho] at ho'; cases ho'; exact hr
    | succ p =>
      intro j o' hj
      exact h2 p (by simpa using hp) j o' (by simpa using hj)
theorem Stage.open {ops : Array Oper} {pi : List Nat} {rl : Oper → Bool} {K : List V → List Ob → List (Wr V (Option Ob)) → Prop} {i : Nat} {rest : List Nat} {s0 : S} {acc : List (Wr V (Option Ob))} {o : Oper} {ids : List Nat} {Out : Wr V (Option Ob) → Prop}
    (ho : ops.toList[i]? = some o) (hr : rl o = true) (hord : orderedG (befores ops.toList) pi acc = true) (hchk : chkOpen (befores ops.toList) i (wr0 ops o ids) pi acc = true)
    (hstep : ∀ D s2, Agree (wr0 ops o ids) s2 s0 → ∀ a w, Rep X D s2 a w → ∀ (Kc : Act → World → Prop) (Q : Exit → Act → World → Prop), (∀ v, Out v → ∀ a' w', Rep X D (s2.app v) a' w' → Kc a' w') → if Region.wanted o (yielded ops a.tmps) then o.wp P a w Kc Q else Kc (a.put o.dst undef) w)
    (h : ∀ v, Out v → ∃ WS, Stage P X ops pi rl K rest (s0.app v) (acc ++ [v]) WS) : ∃ WS, Stage P X ops pi rl K (i :: rest) s0 acc WS := by
  have ht : ∀ v ws1 n, textSt s0 (v :: ws1) (n + 1) = textSt (s0.app v) ws1 n := fun v ws1 n => by rw [textSt_cons]
  refine ⟨fun ws => ws = [] ∨ ∃ v WS ws1, Out v ∧ Stage P X ops pi rl K rest (s0.app v) (acc ++ [v]) WS ∧ WS ws1 ∧ ws = v :: ws1, ?_, ?_, ?_, ?_, ?_⟩
  · rintro ws (rfl | ⟨v, WS, ws1, _, h1, h2, rfl⟩)
    · exact ⟨Nat.zero_le _, fun _ => ⟨⟨i, o, rfl, ho, hr⟩, by simpa using hord⟩⟩
    · obtain ⟨k1, k2⟩ := h1.len ws1 h2
      refine ⟨by simpa using k1, fun hl => ?_⟩
      obtain ⟨k3, k4⟩ := k2 (by simpa using hl)
      exact ⟨by simpa using k3, by simpa using k4⟩
  · rintro ws (rfl | ⟨v, WS, ws1, _, h1, h2, rfl⟩) hl
    · simp at hl
    · obtain ⟨ts', ms', k1, k2, k3⟩ := h1.fin ws1 h2 (by simpa using hl)
      exact ⟨ts', ms', by simpa using k1, k2, by rw [List.length_cons, ht]; exact k3⟩
  · rintro ws (rfl | ⟨v, WS, ws1, _, h1, h2, rfl⟩) p w' hp
    · simp at hp
    · cases p with
      | zero => exact ⟨i, o, rfl, ho, fun e => by rw [hr] at e; cases e⟩
      | succ p =>
        obtain ⟨i', o', k1, k2, k3⟩ := h1.det ws1 h2 p w' (by simpa using hp)
        exact ⟨i', o', by simpa using k1, k2, fun hh => by rw [ht]; exact k3 hh⟩
  · rintro ws (rfl | ⟨v, WS, ws1, hv, h1, h2, rfl⟩) i' hi'
    · simp at hi'; subst hi'
      refine ⟨o, ids, ho, by simpa using hchk, fun D s2 hag a wd hR Kc Q hK => ?_⟩
      refine hstep D s2 hag a wd hR Kc Q (fun v hv a' w' hR' => ?_)
      obtain ⟨WS, h1⟩ := h v hv
      obtain ⟨ws1, h2, h3⟩ := h1.ini
      refine hK (v :: ws1) v (.inr ⟨v, WS, ws1, hv, h1, h2, rfl⟩) (fun q hq => by simp at hq) rfl (fun q hq hq2 => ?_) a' w' hR'
      cases q with
      | zero => simp at hq
      | succ q =>
        intro j o'' hj
        exact h3 q (by simpa using hq2) j o'' (by simpa using hj)
    · obtain ⟨o', ids', k1, k2, k3⟩ := h1.opn ws1 h2 i' (by simpa using hi')
      refine ⟨o', ids', k1, by simpa using k2, fun D s2 hag a wd hR Kc Q hK => ?_⟩
      refine k3 D s2 (by rw [List.length_cons, ht] at hag; exact hag) a wd hR Kc Q (fun ws' u q1 q2 q3 q4 a' w' hR' => hK (v :: ws') u (.inr ⟨v, WS, ws', hv, h1, q1, rfl⟩) (fun q hq => ?_) (by simpa using q3) (fun q hq hq2 => ?_) a' w' hR')
      · cases q with
        | zero => rfl
        | succ q => simpa using q2 q (by simpa using hq)
      · cases q with
        | zero => simp at hq
        | succ q =>
          intro j o'' hj
          exact q4 q (by simpa using hq) (by simpa using hq2) j o'' (by simpa using hj)
  · exact ⟨[], .inl rfl, fun p hp => by simp at hp⟩
theorem runOps_ok {call : CallH} (hcall : CallHOk P X call) {ops : Array Oper} {pi : List Nat} {rl : Oper → Bool} {pks : List (Nat × Nat)} {K : List V → List Ob → List (Wr V (Option Ob)) → Prop} : ∀ (rest : List Nat) (kn : Kn) (ts : List V) (ms : List Ob) (acc : List (Wr V (Option Ob))),
    runOps P X.G call X.n ops pi rl pks K rest kn ts ms acc → KnOk kn (view ⟨ts, ms⟩) → ts.length = X.n → ∃ WS, Stage P X ops pi rl K rest (view ⟨ts, ms⟩) acc WS
  | [], kn, ts, ms, acc, h, _, hn => ⟨_, Stage.nil (by simpa [runOps] using h) hn⟩
  | i :: rest, kn, ts, ms, acc, h, hkn, hn => by
    unfold runOps at h
    split at h
    · exact h.elim
    rename_i o hoi
    -- the rest of the text, once a write is known
    have nxt : ∀ (kn' : Kn) (e : Eff), KnOk kn' (view ⟨ts, ms⟩) → (match appT X.n ts o.dst e.v, appM ms e.wr with
                | some ts', some ms' => runOps P X.G call X.n ops pi rl pks K rest (knOff kn' o.dst) ts' ms' (acc ++ [wrOf ops o e])
                | _, _ => False) → (∀ t, o.dst = some t → t < X.n) ∧ ∃ WS, Stage P X ops pi rl K rest ((view ⟨ts, ms⟩).app (wrOf ops o e)) (acc ++ [wrOf ops o e]) WS := by
      intro kn' e hpk h3
      split at h3
      · rename_i ts' ms' k1 k2
        obtain ⟨t1, t2, t3⟩ := appT_ok hn k1
        obtain ⟨m1, _⟩ := appM_ok k2
        have happ : (view ⟨ts, ms⟩).app (wrOf ops o e) = view ⟨ts', ms'⟩ := by
          unfold view; simp only; rw [t1, m1]; rfl
        have hk' : KnOk (knOff kn' o.dst) (view ⟨ts', ms'⟩) := by rw [← happ]; exact knOff_ok hpk o.dst e.v _
        rw [happ]
        exact ⟨t3, runOps_ok hcall rest _ ts' ms' _ h3 hk' t2⟩
      · exact h3.elim
    split at h
    · rename_i c q ts' hsp
      split at hsp
      · cases hsp
      · rename_i hrl
        split at hsp
        · cases hsp
        · rename_i c' hgc
          split at hsp
          · cases hsp
          · rename_i q' hq
            split at hsp
            · cases hsp
            · rename_i ts'' hts
              cases hsp
              obtain ⟨hn1, h1⟩ := andP_ok h
              obtain ⟨_, _, t3⟩ := appT_ok hn hts
              obtain ⟨_, WS, hst⟩ := nxt kn ⟨.opt c q.2.v, q.2.rd, []⟩ hkn (by simp only [appM, hts]; exact h1)
              exact ⟨_, Stage.cons hoi hrl rfl (spec_step hcall hkn hgc hq hn1 t3) hst⟩
    split at h
    · exact h.elim
    · rename_i l hl
      obtain ⟨p, hpm, hpg, hpk, hpw⟩ := wantedBy_ok (X := X) hkn hl
      have h1 := impP_ok (allG_mem h p hpm) hpg
      have hlk : ∀ t, Operand.tmp t ∈ o.op.operands.toList → t ∈ o.looksAt ops := fun t ht => by
        unfold Oper.looksAt
        exact List.mem_append_left _ (List.mem_filterMap.2 ⟨.tmp t, ht, rfl⟩)
      split at h1
      · rename_i hwant
        split at h1
        · exact h1.elim
        · rename_i args hargs
          split at h1
          · exact h1.elim
          · rename_i ps hps
            obtain ⟨q, hqm, hqg, hqe⟩ := effsB_ok (X := X) hcall (view_free ts ms) hps
            obtain ⟨l', h1, hqm⟩ := pickOr_ok h1 q hqm hqg
            have h2 := impP_ok (allR_mem h1 q hqm) hqg
            obtain ⟨hqn, h3⟩ := andP_ok h2
            have hqe := hqe hqn
            have hargs2 : ∀ {D : Dx} {s2 : S} {a : Act} {w : World} {β : Bm}, (∀ t ∈ o.looksAt ops, s2.tmp t = (view ⟨ts, ms⟩).tmp t) → RepB X D β s2 a w → All2 (V.rel β) args (o.op.operands.toList.map a.eval) := by
              intro D s2 a w β hag hB
              refine argsOf_ok hB (kn := p.2.2) (fun t ht b hb => ?_) ?_
              · rw [hag t (hlk t ht)]; exact knAt_ok hpk hb
              · rw [argsOf_congr (s := view ⟨ts, ms⟩) (fun t ht => hag t (hlk t ht))]
                exact hargs
            unfold okFor at h3
            cases hrl : rl o with
            | false =>
              rw [hrl] at h3
              simp only [outR] at h3
              split at h3
              · rename_i e he
                rw [he] at hqe
                obtain ⟨t3, WS, hst⟩ := nxt _ e hpk h3
                refine ⟨_, Stage.cons hoi hrl rfl (fun D s2 hag a w hR K' Q hK => ?_) hst⟩
                rw [hpw D s2 a w hR hag.1, hwant, if_pos rfl]
                obtain ⟨hC0, β, hb0, hB⟩ := hR
                exact hqe o rfl t3 D s2 a w β hC0 hb0 hB (hargs2 hag.1 hB) (fun id hid => hag.2 id (by simp [wrOf, hid])) (fun r hr => hag.2 r.1 (by simp only [wrOf, List.mem_append, List.mem_map]; exact .inr ⟨r, hr, rfl⟩)) K' Q hK
              · exact h3.elim
            | true =>
              rw [hrl] at h3
              simp only [outR] at h3
              split at h3
              · rename_i e he
                rw [he] at hqe
                split at h3
                · rename_i hok
                  simp only [Bool.and_eq_true] at hok
                  obtain ⟨t3, WS, hst⟩ := nxt _ e hpk h3
                  refine Stage.open (Out := fun v => v = wrOf ops o e) hoi hrl hok.2.1 hok.2.2 (fun D s2 hag a w hR K' Q hK => ?_) (fun v hv => by subst hv; exact ⟨WS, hst⟩)
                  rw [hpw D s2 a w hR hag.1, hwant, if_pos rfl]
                  obtain ⟨hC0, β, hb0, hB⟩ := hR
                  exact hqe o rfl t3 D s2 a w β hC0 hb0 hB (hargs2 hag.1 hB) (fun id hid => hag.2 id (by simp [wr0, hid])) (fun r hr => hag.2 r.1 (by simp only [wr0, List.mem_append, List.mem_map]; exact .inr ⟨r, hr, rfl⟩)) K' Q (fun a' w' hR' => hK _ rfl a' w' hR')
                · exact h3.elim
              · rename_i T rd wi post e he
                rw [he] at hqe
                split at h3
                · rename_i hok
                  simp only [Bool.and_eq_true] at hok
                  refine Stage.open (Out := fun v => ∃ x, holdsP (post x) ∧ v = wrOf ops o ⟨(e x).1, rd, (e x).2⟩) hoi hrl hok.2.1 hok.2.2 (fun D s2 hag a w hR K' Q hK => ?_) (fun v hv => ?_)
                  · rw [hpw D s2 a w hR hag.1, hwant, if_pos rfl]
                    obtain ⟨hC0, β, hb0, hB⟩ := hR
                    exact hqe o rfl (dstIn_ok hok.1) D s2 a w β hC0 hb0 hB (hargs2 hag.1 hB) (fun id hid => hag.2 id (by simp [wr0, hid])) (fun id hid => hag.2 id (by simp [wr0, hid])) K' Q (fun x hx a' w' hR' => hK _ ⟨x, hx, rfl⟩ a' w' hR')
                  · obtain ⟨x, hx, rfl⟩ := hv
                    exact (nxt p.2.2 ⟨(e x).1, rd, (e x).2⟩ hpk (impP_ok (h3 x) hx)).2
                · exact h3.elim
      · rename_i hwant
        have hund : ∀ D s2, (∀ t ∈ o.looksAt ops, s2.tmp t = (view ⟨ts, ms⟩).tmp t) → ∀ a w, Rep X D s2 a w → ∀ (K' : Act → World → Prop) (Q : Exit → Act → World → Prop), (∀ t, o.dst = some t → t < X.n) → (∀ a' w', Rep X D (s2.app (wrOf ops o ⟨undefV, [], []⟩)) a' w' → K' a' w') → if Region.wanted o (yielded ops a.tmps) then o.wp P a w K' Q else K' (a.put o.dst undef) w := by
          intro D s2 hag a w hR K' Q t3 hK
          rw [hpw D s2 a w hR hag, hwant]
          simp only [Bool.false_eq_true, if_false]
          obtain ⟨hc, β, hb, hB⟩ := hR
          exact hK _ _ ⟨hc, β, hb, hB.put t3 (undefV_ok β)⟩
        unfold okFor at h1
        cases hrl : rl o with
        | false =>
          rw [hrl] at h1
          simp only [outR] at h1
          obtain ⟨t3, WS, hst⟩ := nxt _ ⟨undefV, [], []⟩ hpk h1
          exact ⟨_, Stage.cons hoi hrl rfl (fun D s2 hag a w hR K' Q hK => hund D s2 hag.1 a w hR K' Q t3 hK) hst⟩
        | true =>
          rw [hrl] at h1
          simp only [outR] at h1
          split at h1
          · rename_i hok
            simp only [Bool.and_eq_true] at hok
            obtain ⟨t3, WS, hst⟩ := nxt _ ⟨undefV, [], []⟩ hpk h1
            exact Stage.open (Out := fun v => v = wrOf ops o ⟨undefV, [], []⟩) hoi hrl hok.2.1 hok.2.2 (fun D s2 hag a w hR K' Q hK => hund D s2 hag.1 a w hR K' Q t3 (fun a' w' hR' => hK _ rfl a' w' hR')) (fun v hv => by subst hv; exact ⟨WS, hst⟩)
          · exact h1.elim

end
end Go.Proofs.YtpdijogpbnaplaaDoorHz
