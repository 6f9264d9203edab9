/- The engine, third part: contracts by substitution, a row's arguments as symbols, its tables as known cells, its answer. It is about no program. -/
import Derived.Test.YtachmoamlalimaaDoorSxTwo
import Derived.ProofKit
import Derived.LaidMore
import Derived.MakeChecks
import Derived.ChangeSame
namespace Go.Proofs.YtachmoamlalimaaDoorSx
open Go Go.RowKit

/-- expressions laid in the symbols' place, simplified on the way -/
def subE (r : Rng) (τ : List Ex) : Ex → Ex
  | .lit n => .lit n
  | .var i => τ.getD i (.lit 0)
  | .add a b => mkAdd (subE r τ a) (subE r τ b)
  | .sub a b => mkSub (subE r τ a) (subE r τ b)
  | .mul a b => mkMul (subE r τ a) (subE r τ b)
  | .div a k => mkDiv r (subE r τ a) k
  | .mod a k => mkMod r (subE r τ a) k
  | .tdiv a b => mkTdiv r (subE r τ a) (subE r τ b)
  | .tmod a b => mkTmod r (subE r τ a) (subE r τ b)
  | .wrap k a => mkWrap r k (subE r τ a)
  | .bits op k a b => mkBits r op k (subE r τ a) (subE r τ b)
  | .shl k a b => mkShl r k (subE r τ a) (subE r τ b)
  | .shr k a b => mkShr r k (subE r τ a) (subE r τ b)
  | .eq a b => .eq (subE r τ a) (subE r τ b)
  | .lt a b => .lt (subE r τ a) (subE r τ b)
  | .not a => .not (subE r τ a)
  | .and a b => .and (subE r τ a) (subE r τ b)
  | .or a b => .or (subE r τ a) (subE r τ b)
  | .ite c a b => .ite (subE r τ c) (subE r τ a) (subE r τ b)
def envSub (env : Nat → Int) (τ : List Ex) : Nat → Int := fun i => den env (τ.getD i (.lit 0))
theorem subE_ok {r : Rng} {env : Nat → Int} (hr : RngOk r env) (τ : List Ex) : ∀ e, den env (subE r τ e) = den (envSub env τ) e := by
  intro e
  induction e with
  | lit n => rfl
  | var i => rfl
  | add a b iha ihb => simp only [subE, mkAdd_ok, iha, ihb, den]
  | sub a b iha ihb => simp only [subE, mkSub_ok, iha, ihb, den]
  | mul a b iha ihb => simp only [subE, mkMul_ok, iha, ihb, den]
  | div a k ih => simp only [subE, mkDiv_ok hr, ih, den]
  | mod a k ih => simp only [subE, mkMod_ok hr, ih, den]
  | tdiv a b iha ihb => simp only [subE, mkTdiv_ok hr, iha, ihb, den]
  | tmod a b iha ihb => simp only [subE, mkTmod_ok hr, iha, ihb, den]
  | wrap k a ih => simp only [subE, mkWrap_ok hr, ih, den]
  | bits op k a b iha ihb => simp only [subE, mkBits_ok hr, iha, ihb, den]
  | shl k a b iha ihb => simp only [subE, mkShl_ok hr, iha, ihb, den]
  | shr k a b iha ihb => simp only [subE, mkShr_ok hr, iha, ihb, den]
  | eq a b iha ihb => simp only [subE, iha, ihb, den]
  | lt a b iha ihb => simp only [subE, iha, ihb, den]
  | not a ih => simp only [subE, ih, den]
  | and a b iha ihb => simp only [subE, iha, ihb, den]
  | or a b iha ihb => simp only [subE, iha, ihb, den]
  | ite c a b ihc iha ihb => simp only [subE, ihc, iha, ihb, den]
/-- the same of a truth -/
def subB (pc : Pc) (τ : List Ex) : Ex → Ex
  | .not a => mkNot (subB pc τ a)
  | .and a b => mkAnd (subB pc τ a) (subB pc τ b)
  | .or a b => mkOrB (subB pc τ a) (subB pc τ b)
  | e => mkB pc (subE pc.rng τ e)
theorem subB_ok {pc : Pc} {env : Nat → Int} (hp : PcOk env pc) (τ : List Ex) : ∀ e, tr (den env (subB pc τ e)) = tr (den (envSub env τ) e) := by
  intro e
  induction e with
  | not a ih => simp only [subB, mkNot_ok, ih, tr_not]
  | and a b iha ihb => simp only [subB, mkAnd_ok, iha, ihb, tr_and]
  | or a b iha ihb => simp only [subB, mkOrB_ok, iha, ihb, tr_or]
  | _ => simp only [subB, mkB_ok hp, subE_ok hp.rng]

def subL (pc : Pc) (τ : List Ex) : L → L
  | .bool e => .bool (subB pc τ e)
  | .int k e => .int k (subE pc.rng τ e)
  | l => l
def subW (pc : Pc) (τ : List Ex) : W → W
  | .one l => .one (subL pc τ l)
  | .agg ls => .agg (ls.map (subL pc τ))
def subV (pc : Pc) (τ : List Ex) : V → V
  | .val w => .val (subW pc τ w)
  | .tup ws => .tup (ws.map (subW pc τ))
def Env.sub (E : Env) (τ : List Ex) : Env := ⟨envSub E.i τ, E.v, E.one⟩
theorem subL_ok {pc : Pc} {E : Env} (hp : PcOk E.i pc) (τ : List Ex) {β : Bm} (l : L) (x : Value) (h : l.rel (E.sub τ) β x) : (subL pc τ l).rel E β x := by
  cases l with
  | bool e => simp only [subL, L.rel, subB_ok hp] at h ⊢; exact h
  | int k e => simp only [subL, L.rel, subE_ok hp.rng] at h ⊢; exact h
  | _ => exact h
theorem all2_map {α γ : Type} {f : α → γ} {R : α → Value → Prop} {R' : γ → Value → Prop} (hf : ∀ a x, R a x → R' (f a) x) : ∀ {l : List α} {xs : List Value}, All2 R l xs → All2 R' (l.map f) xs
  | [], [], _ => trivial
  | _ :: _, _ :: _, h => ⟨hf _ _ h.1, all2_map hf h.2⟩
  | [], _ :: _, h => h.elim
  | _ :: _, [], h => h.elim
theorem subW_ok {pc : Pc} {E : Env} (hp : PcOk E.i pc) (τ : List Ex) {β : Bm} (w : W) (x : Value) (h : w.rel (E.sub τ) β x) : (subW pc τ w).rel E β x := by
  cases w with
  | one l => exact subL_ok hp τ l x h
  | agg ls => obtain ⟨cs, h1, h2⟩ := h; exact ⟨cs, h1, all2_map (subL_ok hp τ) h2⟩
theorem subV_ok {pc : Pc} {E : Env} (hp : PcOk E.i pc) (τ : List Ex) {β : Bm} (v : V) (x : Value) (h : v.rel (E.sub τ) β x) : (subV pc τ v).rel E β x := by
  cases v with
  | val w => exact subW_ok hp τ w x h
  | tup ws => obtain ⟨cs, h1, h2⟩ := h; exact ⟨cs, h1, all2_map (subW_ok hp τ) h2⟩

/-! ### fitting: which expressions stand in the symbols' place -/
/-- symbols come one behind the other: the next one is the length of what is known -/
def fitE (p e : Ex) (τ : List Ex) : Option (List Ex) :=
  match p with
  | .var i => if Nat.beq i τ.length then some (τ ++ [e]) else none
  | .lit n => match asLit e with
    | some m => if n = m then some τ else none
    | none => none
  | _ => none
def fitL (p l : L) (τ : List Ex) : Option (List Ex) :=
  match p, l with
  | .bool a, .bool b => fitE a b τ
  | .int k a, .int j b => if kindEq k j then fitE a b τ else none
  | .str a, .str b => if a = b then some τ else none
  | _, _ => none
def fitLs : List L → List L → List Ex → Option (List Ex)
  | [], [], τ => some τ
  | p :: ps, l :: ls, τ => match fitL p l τ with
    | some τ' => fitLs ps ls τ'
    | none => none
  | _, _, _ => none
def fitV (p v : V) (τ : List Ex) : Option (List Ex) :=
  match p, v with
  | .val (.one a), .val (.one b) => fitL a b τ
  | .val (.agg as), .val (.agg bs) => fitLs as bs τ
  | _, _ => none
def fitVs : List V → List V → List Ex → Option (List Ex)
  | [], [], τ => some τ
  | p :: ps, v :: vs, τ => match fitV p v τ with
    | some τ' => fitVs ps vs τ'
    | none => none
  | _, _, _ => none

def Pre (τ τ' : List Ex) : Prop := ∃ r, τ' = τ ++ r
theorem Pre.refl (τ : List Ex) : Pre τ τ := ⟨[], by simp⟩
theorem Pre.trans {a b c : List Ex} (h : Pre a b) (k : Pre b c) : Pre a c := by
  obtain ⟨r, rfl⟩ := h; obtain ⟨s, rfl⟩ := k; exact ⟨r ++ s, by simp⟩
theorem fitE_ok {p e : Ex} {τ τ' : List Ex} (h : fitE p e τ = some τ') : Pre τ τ' ∧ ∀ τ'', Pre τ' τ'' → ∀ env, den (envSub env τ'') p = den env e := by
  unfold fitE at h
  split at h
  · rename_i i
    split at h
    · rename_i hi
      cases h
      have := Nat.eq_of_beq_eq_true hi
      subst this
      refine ⟨⟨[e], rfl⟩, fun τ'' hp env => ?_⟩
      obtain ⟨r, rfl⟩ := hp
      simp only [den, envSub, List.getD_eq_getElem?_getD]
      rw [List.append_assoc, List.getElem?_append_right (Nat.le_refl _)]
      simp
    · cases h
  · split at h
    · rename_i n m hm
      split at h
      · rename_i e1; cases h
        refine ⟨Pre.refl _, fun τ'' _ env => ?_⟩
        rw [asLit_eq hm, e1]; rfl
      · cases h
    · cases h
  · cases h
theorem fitL_ok {p l : L} {τ τ' : List Ex} (h : fitL p l τ = some τ') : Pre τ τ' ∧ ∀ τ'', Pre τ' τ'' → ∀ E β x, l.rel E β x → p.rel (E.sub τ'') β x := by
  unfold fitL at h
  split at h
  · obtain ⟨h1, h2⟩ := fitE_ok h
    exact ⟨h1, fun τ'' hp E β x hx => by simp only [L.rel] at hx ⊢; rw [hx]; simp only [Env.sub, h2 τ'' hp]⟩
  · split at h
    · rename_i hk
      obtain ⟨h1, h2⟩ := fitE_ok h
      exact ⟨h1, fun τ'' hp E β x hx => by simp only [L.rel] at hx ⊢; rw [hx, kindEq_eq hk]; simp only [Env.sub, h2 τ'' hp]⟩
    · cases h
  · split at h
    · rename_i e1; cases h; exact ⟨Pre.refl _, fun τ'' hp E β x hx => by rw [e1]; exact hx⟩
    · cases h
  · cases h
theorem fitLs_ok : ∀ {ps ls : List L} {τ τ' : List Ex}, fitLs ps ls τ = some τ' → Pre τ τ' ∧ ∀ τ'', Pre τ' τ'' → ∀ E β xs, All2 (L.rel E β) ls xs → All2 (L.rel (E.sub τ'') β) ps xs
  | [], [], τ, τ', h => by simp [fitLs] at h; subst h; exact ⟨Pre.refl _, fun _ _ E β xs h => by cases xs with | nil => trivial | cons _ _ => exact h.elim⟩
  | p :: ps, l :: ls, τ, τ', h => by
    unfold fitLs at h
    split at h
    · rename_i τ1 h1
      obtain ⟨a1, a2⟩ := fitL_ok h1
      obtain ⟨b1, b2⟩ := fitLs_ok h
      refine ⟨a1.trans b1, fun τ'' hp E β xs hx => ?_⟩
      cases xs with
      | nil => exact hx.elim
      | cons x xs => exact ⟨a2 τ'' (b1.trans hp) E β x hx.1, b2 τ'' hp E β xs hx.2⟩
    · cases h
  | [], _ :: _, _, _, h => by cases h
  | _ :: _, [], _, _, h => by cases h
theorem fitV_ok {p v : V} {τ τ' : List Ex} (h : fitV p v τ = some τ') : Pre τ τ' ∧ ∀ τ'', Pre τ' τ'' → ∀ E β x, v.rel E β x → p.rel (E.sub τ'') β x := by
  unfold fitV at h
  split at h
  · obtain ⟨h1, h2⟩ := fitL_ok h; exact ⟨h1, fun τ'' hp E β x hx => h2 τ'' hp E β x hx⟩
  · obtain ⟨h1, h2⟩ := fitLs_ok h
    exact ⟨h1, fun τ'' hp E β x ⟨cs, hx, hr⟩ => ⟨cs, hx, h2 τ'' hp E β _ hr⟩⟩
  · cases h
theorem fitVs_ok : ∀ {ps vs : List V} {τ τ' : List Ex}, fitVs ps vs τ = some τ' → Pre τ τ' ∧ ∀ τ'', Pre τ' τ'' → ∀ E β xs, All2 (V.rel E β) vs xs → All2 (V.rel (E.sub τ'') β) ps xs
  | [], [], τ, τ', h => by simp [fitVs] at h; subst h; exact ⟨Pre.refl _, fun _ _ E β xs h => by cases xs with | nil => trivial | cons _ _ => exact h.elim⟩
  | p :: ps, l :: ls, τ, τ', h => by
    unfold fitVs at h
    split at h
    · rename_i τ1 h1
      obtain ⟨a1, a2⟩ := fitV_ok h1
      obtain ⟨b1, b2⟩ := fitVs_ok h
      refine ⟨a1.trans b1, fun τ'' hp E β xs hx => ?_⟩
      cases xs with
      | nil => exact hx.elim
      | cons x xs => exact ⟨a2 τ'' (b1.trans hp) E β x hx.1, b2 τ'' hp E β xs hx.2⟩
    · cases h
  | [], _ :: _, _, _, h => by cases h
  | _ :: _, [], _, _, h => by cases h

/-! ### contracts -/
structure Con where
  f : FuncId
  args : List V
  rng : Rng
  ends : List (List (Ex × Bool) × V)
/-- whatever numbers in their ranges stand for the symbols: one of the ends is the call's -/
def Con.ok (P : Program) (G : List (Nat × List L)) (c : Con) : Prop :=
  ∀ E : Env, RngOk c.rng E.i → ∃ e ∈ c.ends, (∀ k ∈ e.1, tr (den E.i k.1) = k.2) ∧ e.2.flat = true ∧ ∀ xs w, All2 (V.rel E noB) c.args xs → GlobOk E G w →
    Calls P c.f xs.toArray w fun en w' => ∃ x, en = .returned x ∧ e.2.rel E noB x ∧ Below w.heap.size w w'

/-- the tables' cells are numbers known -/
def litL : L → Bool
  | .bool (.lit _) => true
  | .int _ (.lit _) => true
  | .str _ => true
  | _ => false
def litG (G : List (Nat × List L)) : Bool := G.all fun g => g.2.all litL
theorem litL_rel {l : L} (h : litL l = true) {E E' : Env} {β : Bm} {x : Value} (hx : l.rel E β x) : l.rel E' β x := by
  unfold litL at h
  split at h <;> first | exact hx | cases h
theorem globOk_env {G : List (Nat × List L)} (h : litG G = true) {E E' : Env} {w : World} (hg : GlobOk E G w) : GlobOk E' G w := by
  intro i g hgi
  obtain ⟨h1, h2⟩ := hg i g hgi
  refine ⟨h1, fun j l hl => ?_⟩
  obtain ⟨x, hx, hr⟩ := h2 j l hl
  have := List.all_eq_true.1 h g (List.mem_of_getElem? hgi)
  exact ⟨x, hx, litL_rel (List.all_eq_true.1 this l (List.mem_of_getElem? hl)) hr⟩

def inR (pc : Pc) : Rng → List Ex → Bool
  | [], _ => true
  | p :: r, e :: τ => within pc.rng e p.1 p.2 && inR pc r τ
  | _ :: _, [] => false
theorem inR_ok {pc : Pc} {env : Nat → Int} (hp : PcOk env pc) : ∀ {r : Rng} {τ : List Ex}, inR pc r τ = true → RngOk r (envSub env τ)
  | [], _, _ => fun i p h => by simp at h
  | q :: r, e :: τ, h => by
    simp only [inR, Bool.and_eq_true] at h
    intro i p hi
    cases i with
    | zero => simp at hi; subst hi; exact within_ok hp.rng h.1
    | succ i => exact inR_ok hp h.2 i p (by simpa using hi)
  | _ :: _, [], h => by cases h

/-- the conditions of an end, in the caller's words: none: it can't be; else the path that has them -/
def layConds (τ : List Ex) : Pc → List (Ex × Bool) → Option Pc
  | pc, [] => some pc
  | pc, (e, b) :: r => match layConds τ pc r with
    | none => none
    | some pc' => match truth pc' (subB pc' τ e) with
      | some t => if t == b then some pc' else none
      | none => some (assume pc' (subB pc' τ e) b)
theorem layConds_ok {env : Nat → Int} {τ : List Ex} : ∀ (l : List (Ex × Bool)) (pc : Pc), PcOk env pc → (∀ k ∈ l, tr (den (envSub env τ) k.1) = k.2) → ∃ pc', layConds τ pc l = some pc' ∧ PcOk env pc'
  | [], pc, hp, _ => ⟨pc, rfl, hp⟩
  | (e, b) :: r, pc, hp, h => by
    obtain ⟨pc', h1, h2⟩ := layConds_ok r pc hp (fun k hk => h k (List.mem_cons_of_mem _ hk))
    have he := h _ List.mem_cons_self
    simp only at he
    rw [← subB_ok h2] at he
    unfold layConds
    rw [h1]
    simp only
    split
    · rename_i t ht
      have := truth_ok h2 _ _ ht
      rw [he] at this
      rw [if_pos (by simp [this])]
      exact ⟨_, rfl, h2⟩
    · exact ⟨_, rfl, assume_ok _ _ h2 he⟩

def useEnds (τ : List Ex) (pc : Pc) : List (List (Ex × Bool) × V) → List (Pc × V)
  | [] => []
  | (cs, v) :: r => match layConds τ pc cs with
    | none => useEnds τ pc r
    | some pc' => (pc', subV pc' τ v) :: useEnds τ pc r
theorem useEnds_mem {τ : List Ex} {pc : Pc} : ∀ {l : List (List (Ex × Bool) × V)} {e : List (Ex × Bool) × V} {pc' : Pc}, e ∈ l → layConds τ pc e.1 = some pc' → (pc', subV pc' τ e.2) ∈ useEnds τ pc l
  | (cs, v) :: r, e, pc', h, hl => by
    unfold useEnds
    rcases List.mem_cons.1 h with rfl | h
    · rw [hl]; exact List.mem_cons_self
    · have := useEnds_mem h hl
      split
      · exact this
      · exact List.mem_cons_of_mem _ this

def useCon (c : Con) (f : FuncId) (args : List V) (pc : Pc) : Option (List (Pc × V)) :=
  if Nat.beq c.f f then (match fitVs c.args args [] with
    | some τ => if inR pc c.rng τ then some (useEnds τ pc c.ends) else none
    | none => none) else none
def specOf : List Con → Handler
  | [], _, _, _ => none
  | c :: cs, f, args, pc => match useCon c f args pc with
    | some r => some r
    | none => specOf cs f args pc

theorem specOf_ok {P : Program} {E : Env} {G : List (Nat × List L)} (hG : litG G = true) : ∀ (cs : List Con), (∀ c ∈ cs, c.ok P G) → CallOk P E G (specOf cs)
  | [], _ => fun _ _ _ _ h => by cases h
  | c :: cs, hc => by
    intro f args pc l h hp
    unfold specOf at h
    split at h
    · rename_i r hr
      cases h
      unfold useCon at hr
      split at hr
      · rename_i hf
        have := Nat.eq_of_beq_eq_true hf
        subst this
        split at hr
        · rename_i τ hτ
          split at hr
          · rename_i hin
            cases hr
            obtain ⟨_, hfit⟩ := fitVs_ok hτ
            obtain ⟨e, hem, hec, hef, heC⟩ := hc c List.mem_cons_self (E.sub τ) (inR_ok hp hin)
            obtain ⟨pc', h1, h2⟩ := layConds_ok e.1 pc hp hec
            refine ⟨_, useEnds_mem hem h1, h2, fun xs w hxs hg => ?_⟩
            refine (heC xs w (hfit τ (Pre.refl _) E noB xs hxs) (globOk_env hG hg)).mono ?_
            rintro en w' ⟨x, rfl, hx, hb⟩
            exact ⟨x, rfl, subV_ok h2 τ _ _ hx, hb⟩
          · cases hr
        · cases hr
      · cases hr
    · exact specOf_ok hG cs (fun c hm => hc c (List.mem_cons_of_mem _ hm)) f args pc l h hp

/-- a contract by computation, over contracts -/
noncomputable def endsOf (P : Program) (G : List (Nat × List L)) (cs : List Con) (fuel d : Nat) (f : FuncId) (args : List V) (rng : Rng) : Option (List (List (Ex × Bool) × V)) :=
  match evFn P G (specOf cs) fuel d f args ⟨rng, [], []⟩ with
  | some l => some (l.map fun p => (p.1.conds, p.2))
  | none => none
theorem con_ok {P : Program} {G : List (Nat × List L)} (hG : nodupG G = true) (hL : litG G = true) {cs : List Con} (hcs : ∀ c ∈ cs, c.ok P G) {fuel d : Nat} (c : Con)
    (hflat : c.ends.all (fun e => e.2.flat) = true) (h : endsOf P G cs fuel d c.f c.args c.rng = some c.ends) : c.ok P G := by
  intro E hr
  unfold endsOf at h
  split at h
  · rename_i l hl
    obtain ⟨p, hpm, hpp, hC⟩ := evFn_ok hG (specOf_ok (E := E) hL cs hcs) d c.f c.args _ l hl ⟨hr, fun f hf => (by cases hf), fun f hf => (by cases hf)⟩
    have hm : (p.1.conds, p.2) ∈ c.ends := by rw [← Option.some.inj h]; exact List.mem_map.2 ⟨p, hpm, rfl⟩
    refine ⟨_, hm, fun k hk => hpp.conds k hk, List.all_eq_true.1 hflat _ hm, hC⟩
  · cases h
end Go.Proofs.YtachmoamlalimaaDoorSx
namespace Go.Proofs.YtachmoamlalimaaDoorSx
open Go Go.RowKit Go.ChangeShapes

/-! ### the arguments -/
def kindRng : IntKind → Int × Int
  | .i8 => (-128, 127)
  | .i16 => (-32768, 32767)
  | .i32 => (-2147483648, 2147483647)
  | .i64 => (-9223372036854775808, 9223372036854775807)
  | .u8 => (0, 255)
  | .u16 => (0, 65535)
  | .u32 => (0, 4294967295)
  | .u64 => (0, 18446744073709551615)
theorem kindRng_eq (k : IntKind) : kindRng k = (k.min, k.max) := by cases k <;> rfl
noncomputable def symCell (P : Program) (t : TypeId) (n : Nat) : Option (L × (Int × Int)) :=
  match P.underlying t with
  | some .bool => some (.bool (.var n), (0, 1))
  | some (.int k) => some (.int k (.var n), kindRng k)
  | _ => none
noncomputable def symCells (P : Program) : List TypeId → Nat → Option (List L × Rng)
  | [], _ => some ([], [])
  | t :: ts, n => match symCell P t n with
    | none => none
    | some (l, p) => match symCells P ts (n + 1) with
      | none => none
      | some (ls, r) => some (l :: ls, p :: r)
noncomputable def symRow (P : Program) (t : TypeId) (n : Nat) : Option (List L × Rng) :=
  match P.cellTypes P.depth t with
  | none => none
  | some ts => if Nat.beq ts.length (P.cellsOf t) then symCells P ts n else none
noncomputable def symArg (P : Program) (t : TypeId) (n : Nat) : Option (V × Rng) :=
  match P.underlying t with
  | some (.struct _) | some (.array _ _) => match symRow P t n with
    | none => none
    | some (ls, r) => some (.val (.agg ls), r)
  | _ => match symCell P t n with
    | none => none
    | some (l, p) => some (.val (.one l), [p])
noncomputable def symArgs (P : Program) : List TypeId → Nat → Option (List V × Rng)
  | [], _ => some ([], [])
  | t :: ts, n => match symArg P t n with
    | none => none
    | some (v, r) => match symArgs P ts (n + r.length) with
      | none => none
      | some (vs, r') => some (v :: vs, r ++ r')

theorem inRng_append : ∀ {r r' : Rng} {l l' : List Int}, inRng r l → l.length = r.length → inRng r' l' → inRng (r ++ r') (l ++ l')
  | [], _, [], _, _, _, h => h
  | [], _, _ :: _, _, _, e, _ => by simp at e
  | _ :: _, _, [], _, h, _, _ => h.elim
  | _ :: r, _, _ :: l, _, h, e, h' => ⟨h.1, inRng_append h.2 (by simpa using e) h'⟩

/-- the symbols from 'n' on stand for these numbers -/
def At (E : Env) (n : Nat) (l : List Int) : Prop := ∀ (i : Nat) (m : Int), l[i]? = some m → E.i (n + i) = m
theorem At.append {E : Env} {n : Nat} {l l' : List Int} (h : At E n (l ++ l')) : At E n l ∧ At E (n + l.length) l' := by
  refine ⟨fun i m hm => h i m (by rw [List.getElem?_append_left (List.getElem?_eq_some_iff.1 hm).1]; exact hm), fun i m hm => ?_⟩
  have := h (l.length + i) m (by rw [List.getElem?_append_right (by omega)]; simpa using hm)
  rwa [← Nat.add_assoc] at this
theorem At.cons {E : Env} {n : Nat} {a : Int} {l : List Int} (h : At E n (a :: l)) : E.i n = a ∧ At E (n + 1) l := by
  refine ⟨h 0 a rfl, fun i m hm => ?_⟩
  have := h (i + 1) m (by simpa using hm)
  rwa [show n + (i + 1) = n + 1 + i by omega] at this
theorem at_envOf (l : List Int) : At (envOf l) 0 l := fun i m hm => by simp [envOf, List.getD_eq_getElem?_getD, hm]

theorem symCell_ok {P : Program} {t : TypeId} {n : Nat} {l : L} {p : Int × Int} (h : symCell P t n = some (l, p)) {w : World} {r : Reach} {base : Nat} {v : Value} (hv : Cell.okWide P w r base t v) :
    ∃ m : Int, (p.1 ≤ m ∧ m ≤ p.2) ∧ ∀ E : Env, E.i n = m → l.rel E noB v := by
  unfold symCell at h
  split at h
  · rename_i ht
    cases h
    unfold Cell.okWide at hv
    split at hv <;> simp_all [Cell.ok]
    split at hv <;> simp_all
    rename_i b
    refine ⟨b2i b, by cases b <;> simp [b2i], fun E he => ?_⟩
    simp only [L.rel, den, he]
    cases b <;> simp [b2i, tr]
  · rename_i k ht
    cases h
    unfold Cell.okWide at hv
    split at hv <;> simp_all [Cell.ok]
    split at hv <;> simp_all
    rename_i n' _
    refine ⟨n', by rw [kindRng_eq]; exact hv.2, fun E he => ?_⟩
    simp only [L.rel, den, he]
  · cases h
theorem symCells_ok {P : Program} {w : World} {r : Reach} {base : Nat} : ∀ {ts : List TypeId} {n : Nat} {ls : List L} {rg : Rng}, symCells P ts n = some (ls, rg) → ∀ vs : List Value, vs.length = ts.length →
    (∀ (i : Nat) (v : Value), vs[i]? = some v → ∃ u, ts[i]? = some u ∧ Cell.okWide P w r base u v) →
    ∃ l : List Int, l.length = rg.length ∧ inRng rg l ∧ ∀ E : Env, At E n l → All2 (L.rel E noB) ls vs
  | [], n, ls, rg, h, vs, hl, hv => by
    cases h
    cases vs with
    | nil => exact ⟨[], rfl, trivial, fun _ _ => trivial⟩
    | cons _ _ => simp at hl
  | t :: ts, n, ls, rg, h, vs, hl, hv => by
    unfold symCells at h
    split at h
    · cases h
    · rename_i l p hc
      split at h
      · cases h
      · rename_i ls' r' hcs
        cases h
        cases vs with
        | nil => simp at hl
        | cons v vs =>
          obtain ⟨u, hu, hok⟩ := hv 0 v rfl
          simp at hu
          subst hu
          obtain ⟨m, hm, hE⟩ := symCell_ok hc hok
          obtain ⟨l', h1, h2, h3⟩ := symCells_ok hcs vs (by simpa using hl) (fun i v hi => by simpa using hv (i + 1) v (by simpa using hi))
          exact ⟨m :: l', by simp [h1], ⟨hm, h2⟩, fun E hA => ⟨hE E hA.cons.1, h3 E hA.cons.2⟩⟩
theorem symArg_ok {P : Program} {w : World} {r : Reach} {base : Nat} {t : TypeId} {n : Nat} {v : V} {rg : Rng} (h : symArg P t n = some (v, rg)) {x : Value} (hx : Value.okWide P w r base t x) :
    ∃ l : List Int, l.length = rg.length ∧ inRng rg l ∧ ∀ E : Env, At E n l → v.rel E noB x := by
  have agg : ∀ {ls rg}, symRow P t n = some (ls, rg) → (∃ cs, x = .agg cs ∧ cs.size = P.cellsOf t ∧ Row.okWide P w r base t cs) → ∃ l : List Int, l.length = rg.length ∧ inRng rg l ∧ ∀ E : Env, At E n l → (V.val (.agg ls)).rel E noB x := by
    intro ls rg hr ⟨cs, hxe, hs, ts, hts, _, hcell⟩
    subst hxe
    unfold symRow at hr
    rw [hts] at hr
    simp only at hr
    split at hr
    · rename_i hb
      have hb := Nat.eq_of_beq_eq_true hb
      obtain ⟨l, h1, h2, h3⟩ := symCells_ok hr cs.toList (by rw [hb, ← hs]; simp) (fun i v hi => by
        have hi' : cs[i]? = some v := by simpa using hi
        obtain ⟨u, hu, hok⟩ := hcell i v hi'
        have hlt : i < ts.length := by rw [hb, ← hs]; exact (Array.getElem?_eq_some_iff.1 hi').1
        rw [Nat.mod_eq_of_lt hlt] at hu
        exact ⟨u, hu, hok⟩)
      exact ⟨l, h1, h2, fun E hA => ⟨cs, rfl, h3 E hA⟩⟩
    · cases hr
  unfold symArg at h
  unfold Value.okWide at hx
  split at h
  · rename_i ht
    rw [ht] at hx
    split at h
    · cases h
    · rename_i hr; cases h; exact agg hr hx
  · rename_i ht
    rw [ht] at hx
    split at h
    · cases h
    · rename_i hr; cases h; exact agg hr hx
  · rename_i hn1 hn2
    have hx' : Cell.okWide P w r base t x := by
      split at hx
      · rename_i e; exact (hn1 _ e).elim
      · rename_i e; exact (hn2 _ _ e).elim
      · exact hx
    split at h
    · cases h
    · rename_i l p hc
      cases h
      obtain ⟨m, hm, hE⟩ := symCell_ok hc hx'
      exact ⟨[m], rfl, ⟨hm, trivial⟩, fun E hA => hE E hA.cons.1⟩
theorem symArgs_ok {P : Program} {w : World} {r : Reach} {base : Nat} : ∀ {ts : List TypeId} {n : Nat} {vs : List V} {rg : Rng}, symArgs P ts n = some (vs, rg) → ∀ xs : List Value, xs.length = ts.length →
    (∀ (i : Nat) (t : TypeId) (x : Value), ts[i]? = some t → xs[i]? = some x → Value.okWide P w r base t x) →
    ∃ l : List Int, l.length = rg.length ∧ inRng rg l ∧ ∀ E : Env, At E n l → All2 (V.rel E noB) vs xs
  | [], n, vs, rg, h, xs, hl, _ => by
    cases h
    cases xs with
    | nil => exact ⟨[], rfl, trivial, fun _ _ => trivial⟩
    | cons _ _ => simp at hl
  | t :: ts, n, vs, rg, h, xs, hl, hx => by
    unfold symArgs at h
    split at h
    · cases h
    · rename_i v r1 hv
      split at h
      · cases h
      · rename_i vs' r2 hvs
        cases h
        cases xs with
        | nil => simp at hl
        | cons x xs =>
          obtain ⟨l1, a1, a2, a3⟩ := symArg_ok hv (hx 0 t x rfl rfl)
          obtain ⟨l2, b1, b2, b3⟩ := symArgs_ok hvs xs (by simpa using hl) (fun i t x h1 h2 => hx (i + 1) t x (by simpa using h1) (by simpa using h2))
          refine ⟨l1 ++ l2, by simp [a1, b1], inRng_append a2 a1 b2, fun E hA => ⟨a3 E hA.append.1, b3 E ?_⟩⟩
          rw [← a1]; exact hA.append.2

/-! ### the tables -/
mutual
/-- the cells of a reading of numbers, truths, structs and arrays of them -/
def flatD : DataW Unit → Option (List L)
  | .lit (.bool b) => some [.bool (.lit (b2i b))]
  | .lit (.int k n) => some [.int k (.lit n)]
  | .lit (.string bs) => some [.str bs]
  | .agg ps => flatDs ps
  | _ => none
def flatDs : List (DataW Unit) → Option (List L)
  | [] => some []
  | d :: r => match flatD d with
    | none => none
    | some a => match flatDs r with
      | none => none
      | some b => some (a ++ b)
end
theorem all2_drop_take {α β : Type} {R : α → β → Prop} {l : List α} {m : List β} {k : Nat} {l' : List α} (h1 : All2 R l (m.take k)) (h2 : All2 R l' (m.drop k)) : All2 R (l ++ l') m := by
  have := All2.append h1 h2
  rwa [List.take_append_drop] at this

def rowFs (P : Program) (go : TypeId → Bool) : List Field → Nat → Nat → Bool
  | [], off, all => Nat.beq off all
  | f :: r, off, all => Nat.beq f.offset off && go f.type && rowFs P go r (off + P.cellsOf f.type) all
/-- types whose reading is their cells, one behind the other, none left out -/
noncomputable def rowTy (P : Program) : Nat → TypeId → Bool
  | 0, _ => false
  | n + 1, t => match P.underlying t with
    | some .bool => true
    | some (.int _) => true
    | some .string => true
    | some (.array m e) => Nat.beq (P.cellsOf t) (m * P.cellsOf e) && rowTy P n e
    | some (.struct fs) => rowFs P (rowTy P n) fs.toList 0 (P.cellsOf t)
    | _ => false

section
variable {P : Program} {w : World} {base : Nat} {spare : Nat → Bool} {held : Bool} {E : Env} {β : Bm}
theorem flat_arr {fuel : Nat} {e : TypeId} (ih : ∀ cs (x : DataW Unit × List MemPlace) ls, DataW.trod (fun _ => ()) P w base spare held fuel e cs = some x → flatD x.1 = some ls → All2 (L.rel E β) ls cs) (c : Nat) :
    ∀ (m : Nat) (i : Nat) (cs : List Value) (xs : List (DataW Unit × List MemPlace)) (ls : List L), cs.length = (i + m) * c →
      ((List.range' i m).mapM fun i => DataW.trod (fun _ => ()) P w base spare held fuel e ((cs.drop (i * c)).take c)) = some xs → flatDs (xs.map (·.1)) = some ls → All2 (L.rel E β) ls (cs.drop (i * c))
  | 0, i, cs, xs, ls, hl, hm, hf => by
    simp at hm
    subst hm
    simp [flatDs] at hf
    subst hf
    rw [List.drop_of_length_le (by rw [hl]; simp)]
    trivial
  | m + 1, i, cs, xs, ls, hl, hm, hf => by
    rw [List.range'_succ] at hm
    simp only [List.mapM_cons, Option.bind_eq_bind, Option.pure_def, Option.bind_eq_some_iff] at hm
    obtain ⟨x, hx, ys, hys, hxs⟩ := hm
    cases hxs
    simp only [List.map_cons, flatDs] at hf
    split at hf
    · cases hf
    · rename_i a ha
      split at hf
      · cases hf
      · rename_i b hb
        cases hf
        have h1 := ih _ _ _ hx ha
        have h2 := flat_arr ih c m (i + 1) cs ys b (by rw [hl]; congr 1; omega) hys hb
        refine all2_drop_take h1 ?_
        rw [List.drop_drop]
        rwa [show i * c + c = (i + 1) * c by rw [Nat.succ_mul]]
theorem flat_fs {fuel n : Nat} (ih : ∀ t, rowTy P n t = true → ∀ cs (x : DataW Unit × List MemPlace) ls, DataW.trod (fun _ => ()) P w base spare held fuel t cs = some x → flatD x.1 = some ls → All2 (L.rel E β) ls cs) :
    ∀ (fs : List Field) (off : Nat) (cs : List Value) (xs : List (DataW Unit × List MemPlace)) (ls : List L), rowFs P (rowTy P n) fs off cs.length = true →
      (fs.mapM fun f => DataW.trod (fun _ => ()) P w base spare held fuel f.type ((cs.drop f.offset).take (P.cellsOf f.type))) = some xs → flatDs (xs.map (·.1)) = some ls → All2 (L.rel E β) ls (cs.drop off)
  | [], off, cs, xs, ls, hr, hm, hf => by
    simp at hm
    subst hm
    simp [flatDs] at hf
    subst hf
    simp only [rowFs] at hr
    have := Nat.eq_of_beq_eq_true hr
    rw [List.drop_of_length_le (by omega)]
    trivial
  | f :: fs, off, cs, xs, ls, hr, hm, hf => by
    simp only [rowFs, Bool.and_eq_true] at hr
    obtain ⟨⟨h1, h2⟩, h3⟩ := hr
    have h1 := Nat.eq_of_beq_eq_true h1
    simp only [List.mapM_cons, Option.bind_eq_bind, Option.pure_def, Option.bind_eq_some_iff] at hm
    obtain ⟨x, hx, ys, hys, hxs⟩ := hm
    cases hxs
    simp only [List.map_cons, flatDs] at hf
    split at hf
    · cases hf
    · rename_i a ha
      split at hf
      · cases hf
      · rename_i b hb
        cases hf
        have g1 := ih _ h2 _ _ _ hx ha
        have g2 := flat_fs ih fs (off + P.cellsOf f.type) cs ys b h3 hys hb
        rw [h1] at g1
        refine all2_drop_take g1 ?_
        rwa [List.drop_drop]
theorem flat_trod : ∀ (fuel n : Nat) (t : TypeId), rowTy P n t = true → ∀ cs (x : DataW Unit × List MemPlace) ls, DataW.trod (fun _ => ()) P w base spare held fuel t cs = some x → flatD x.1 = some ls → All2 (L.rel E β) ls cs
  | 0, _, _, _, _, _, _, h, _ => by simp [DataW.trod] at h
  | _ + 1, 0, _, hr, _, _, _, _, _ => by simp [rowTy] at hr
  | fuel + 1, n + 1, t, hr, cs, x, ls, h, hf => by
    unfold rowTy at hr
    split at hr
    · rename_i ht
      obtain ⟨b, rfl, rfl⟩ := DataW.trod_bool ht h
      simp [flatD] at hf
      subst hf
      refine ⟨?_, trivial⟩
      cases b <;> simp [L.rel, den, b2i, tr]
    · rename_i k ht
      obtain ⟨q, rfl, rfl, _⟩ := DataW.trod_int ht h
      simp [flatD] at hf
      subst hf
      exact ⟨rfl, trivial⟩
    · rename_i ht
      obtain ⟨s, rfl, rfl, _⟩ := DataW.trod_string ht h
      simp [flatD] at hf
      subst hf
      exact ⟨by simp [L.rel], trivial⟩
    · rename_i m e ht
      simp only [Bool.and_eq_true] at hr
      have hc := Nat.eq_of_beq_eq_true hr.1
      unfold DataW.trod at h
      simp only [ht] at h
      split at h
      · rename_i hlen
        simp only [Option.map_eq_some_iff] at h
        obtain ⟨xs, hxs, rfl⟩ := h
        simp only [flatD] at hf
        rw [List.range_eq_range'] at hxs
        have := flat_arr (E := E) (β := β) (fun cs x ls => flat_trod fuel n e hr.2 cs x ls) (P.cellsOf e) m 0 cs xs ls (by rw [hlen, hc]; simp) hxs hf
        simpa using this
      · cases h
    · rename_i fs ht
      unfold DataW.trod at h
      simp only [ht] at h
      split at h
      · rename_i hlen
        simp only [Option.map_eq_some_iff] at h
        obtain ⟨xs, hxs, rfl⟩ := h
        simp only [flatD] at hf
        rw [← hlen] at hr
        have := flat_fs (E := E) (β := β) (fun t ht cs x ls => flat_trod fuel n t ht cs x ls) fs.toList 0 cs xs ls hr hxs hf
        simpa using this
      · cases h
    · cases hr
end

/-- the tables that a row lists, by number, with their cells -/
noncomputable def tables (P : Program) : List (String × DataW Unit) → Option (List (Nat × List L))
  | [] => some []
  | (s, d) :: r => match P.globalNamed s with
    | none => none
    | some g => match (P.globals[g]?).map (·.type) with
      | none => none
      | some t => if rowTy P 20 t then (match flatD d with
        | none => none
        | some ls => match tables P r with
          | none => none
          | some G => some ((g, ls) :: G)) else none
theorem tables_ok {P : Program} {w : World} (E : Env) : ∀ {laid : List (String × DataW Unit)} {G : List (Nat × List L)} {ps : List MemPlace}, tables P laid = some G → DataW.LaidVars P w laid ps → GlobOk E G w
  | [], G, _, h, _ => by cases h; intro i g hg; simp at hg
  | (s, d) :: r, G, ps, h, hl => by
    obtain ⟨g, t, cs, fuel, p, q, h1, h2, h3, h4, h5, _⟩ := hl
    unfold tables at h
    rw [h1] at h
    simp only [h2] at h
    split at h
    · rename_i ht
      split at h
      · cases h
      · rename_i ls hls
        split at h
        · cases h
        · rename_i G' hG'
          cases h
          have ih := tables_ok E hG' h5
          have hrel := flat_trod (E := E) (β := noB) fuel 20 t ht cs.toList (d, p) ls h4 hls
          intro i x hx
          cases i with
          | zero =>
            simp at hx
            subst hx
            refine ⟨?_, fun j l hj => ?_⟩
            · unfold World.var? at h3
              rw [h1] at h3
              simp only [Option.bind_some] at h3
              cases hh : w.heap[g]? with
              | none => rw [hh] at h3; cases h3
              | some o => exact (Array.getElem?_eq_some_iff.1 hh).1
            · obtain ⟨v, hv, hr⟩ := hrel.get j l hj
              exact ⟨v, by rw [World.var?_cell h1 h3 j]; simpa using hv, hr⟩
          | succ i => exact ih i x (by simpa using hx)
    · cases h
theorem globOk_laid {P : Program} {w : World} (E : Env) {laid : List (String × DataW Unit)} {G : List (Nat × List L)} (h : tables P laid = some G) (hp : (laid.all fun x => x.2.handleName?.isNone) = true) (hl : laidMetH P laid w) : GlobOk E G w := by
  rw [MakeChecks.laidMetH_plain _ _ _ hp] at hl
  obtain ⟨ps, h1, _⟩ := hl
  exact tables_ok E h h1

/-! ### the answer -/
theorem trodAll_stays {H : Type} {enc : TypeId × Value → H} {P : Program} (hl : laidOutB P = true) {W W' : World} (hb : Below W.heap.size W W') {sp : Nat → Bool} :
    ∀ {ts : List TypeId} {vs : List Value} {ds : List (DataW H)} {ps : List MemPlace}, (ts.all fun t => P.readableRec t && decide (t < P.types.size)) = true → DataW.TrodAll enc P W 0 (fun _ => true) true ts vs ds ps →
      (∀ p ∈ ps, p.block < W.heap.size) → (∀ p ∈ ps, sp p.block = true) → DataW.TrodAll enc P W' 0 sp true ts vs ds ps
  | [], [], [], _, _, h, _, _ => h
  | [], [], _ :: _, _, _, h, _, _ => h.elim
  | [], _ :: _, _, _, _, h, _, _ => h.elim
  | _ :: _, [], _, _, _, h, _, _ => h.elim
  | _ :: _, _ :: _, [], _, _, h, _, _ => h.elim
  | t :: ts, v :: vs, d :: ds, ps, ht, h, hlt, hs => by
    obtain ⟨p, q, h1, h2, rfl⟩ := h
    simp only [List.all_cons, Bool.and_eq_true, decide_eq_true_eq] at ht
    exact ⟨p, q, WideElems.Trod_stays hl ht.1.1 ht.1.2 h1 (fun x hx => hb.same (hlt x (by simp [hx]))) (fun x hx => hs x (by simp [hx])),
      trodAll_stays hl hb ht.2 h2 (fun x hx => hlt x (by simp [hx])) (fun x hx => hs x (by simp [hx])), rfl⟩

/-- the answer is true, nothing old has turned -/
theorem post_true {H : Type} {enc : TypeId × Value → H} {P : Program} {f : Func} {s : ChangeSpec} {apart fresh handsOn again : Bool} (hl : laidOutB P = true) (hvars : s.vars = [])
    (hts : (f.params.toList.all fun t => P.readableRec t && decide (t < P.types.size)) = true) {tb : TypeId} (hrt : f.resultTypes = #[tb]) (hb : P.underlying tb = some .bool)
    {W W' : World} {args : Array Value} {ds gs : List (DataW H)} {before : List MemPlace} (hW : DataW.Whole enc P f.params.toList s.vars apart W args.toList ds gs before)
    (hfn : s.fn H (ds ++ gs) = { results := [.lit (.bool true)], args := ds }) (hbe : Below W.heap.size W W') : s.post enc P f apart fresh handsOn again W args (.bool true) W' := by
  have hW' := hW
  obtain ⟨p, q, hA, hV, rfl, hfz, hnd⟩ := hW
  rw [hvars] at hV
  obtain ⟨rfl, rfl⟩ := trodVars_none hV
  have hlt : ∀ x ∈ p, x.block < W.heap.size := fun x hx => by simpa using hW'.lt x (by simpa using hx)
  have hold : ∀ x ∈ p ++ [], (fun b => decide (b < W.heap.size)) x.block = true := fun x hx => by simpa using hW'.lt x hx
  have hres : ∀ (b : Nat) (sp : Nat → Bool) (hd : Bool), DataW.TrodAll enc P W' b sp hd f.resultTypes.toList ((Value.bool true).resultList f.resultTypes.size) (s.fn H (ds ++ [])).results [] := by
    intro b sp hd
    rw [hfn, hrt]
    exact trodAll_mk1 (shut_bool hb _)
  have hargs : ∀ sp : Nat → Bool, (∀ x ∈ p ++ [], sp x.block = true) → DataW.TrodAll enc P W' 0 sp true f.params.toList args.toList (s.fn H (ds ++ [])).args p := by
    intro sp hsp
    rw [hfn]
    exact trodAll_stays hl hbe hts hA hlt (fun x hx => hsp x (by simpa using hx))
  have hvar : ∀ sp : Nat → Bool, DataW.TrodVars enc P W' sp s.vars (s.fn H (ds ++ [])).vars [] := by
    intro sp
    rw [hfn, hvars]
    rfl
  refine ⟨ds, [], p ++ [], [], p, [], hW', hres _ _ _, hargs _ hold, hvar _, World.keptBut_mono (fun x hx => ⟨hx, ?_⟩) (hbe.frame (· ∈ p ++ [])), fun _ => ?_⟩
  · exact Or.inr (by simpa using hx)
  · refine ⟨ok_one hrt rfl (okWide_bool_mk hb _), [.lit (.bool true)] ++ ds, [], ([] ++ p) ++ [], ⟨[] ++ p, [], ?_, (by rw [hvars]; exact rfl), rfl, ?_, ?_⟩, ?_⟩
    · have h := trodAll_append (hargs (fun _ => true) (fun _ _ => rfl)) (hres 0 (fun _ => true) true)
      rw [hfn] at h
      exact h
    · intro b off hp
      have hx : MemPlace.cell b off ∈ p ++ [] := by simpa using hp
      rw [hbe.frozen (p := ⟨b, off, none⟩) (show b < W.heap.size from (hW'.lt _ hx : (MemPlace.cell b off).block < _))]
      exact hfz b off hx
    · intro ha
      simpa using hnd ha
    · intro x hx _
      simpa using hx

/-- the law's function answers true on every path, taken over contracts -/
noncomputable def saysTrueC (P : Program) (G : List (Nat × List L)) (cs : List Con) (fuel d : Nat) (f : FuncId) (args : List V) (pc : Pc) : Bool :=
  match evFn P G (specOf cs) fuel d f args pc with
  | some l => l.all (fun p => isTrue p.2)
  | none => false
/-- whatever numbers in their ranges stand for the symbols: the law's function answers true -/
def Holds (P : Program) (G : List (Nat × List L)) (f : FuncId) (vs : List V) (rg : Rng) : Prop :=
  ∀ E : Env, RngOk rg E.i → ∀ (xs : List Value) (W : World), All2 (V.rel E noB) vs xs → (∀ E, GlobOk E G W) → Calls P f xs.toArray W fun e w' => e = .returned (.bool true) ∧ Below W.heap.size W w'
theorem of_says {P : Program} {G : List (Nat × List L)} {cs : List Con} {fuel d : Nat} {f : FuncId} {vs : List V} {rg : Rng} (hG : nodupG G = true) (hL : litG G = true) (hcs : ∀ c ∈ cs, c.ok P G)
    (hsay : saysTrueC P G cs fuel d f vs ⟨rg, [], []⟩ = true) : Holds P G f vs rg := by
  intro E hr xs W hx hglob
  unfold saysTrueC at hsay
  split at hsay
  · rename_i lp hl
    obtain ⟨p, hpm, _, hC⟩ := evFn_ok hG (specOf_ok (E := E) hL cs hcs) d f vs _ lp hl ⟨hr, fun f hf => (by cases hf), fun f hf => (by cases hf)⟩
    refine Calls.mono (hC xs W hx (hglob _)) ?_
    rintro e w' ⟨x, rfl, hr, hb⟩
    rw [isTrue_ok (List.all_eq_true.1 hsay p hpm) hr]
    exact ⟨rfl, hb⟩
  · cases hsay
theorem rngOk_set {r : Rng} {env : Nat → Int} (hr : RngOk r env) {i : Nat} {p : Int × Int} (h : p.1 ≤ env i ∧ env i ≤ p.2) : RngOk (r.set i p) env := setRng_ok hr h
theorem Holds.cut {P : Program} {G : List (Nat × List L)} {f : FuncId} {vs : List V} {rg : Rng} (j : Nat) (c : Int) {p : Int × Int} (hj : rg[j]? = some p) (h1 : Holds P G f vs (rg.set j (p.1, c - 1))) (h2 : Holds P G f vs (rg.set j (c, p.2))) :
    Holds P G f vs rg := by
  intro E hr
  have := hr j p hj
  by_cases h : E.i j < c
  · exact h1 E (rngOk_set hr (by simp only; omega))
  · exact h2 E (rngOk_set hr (by simp only; omega))
theorem all2_map2 {α β γ : Type} {R : α → β → Prop} {R' : γ → β → Prop} {f : α → γ} (hf : ∀ a b, R a b → R' (f a) b) : ∀ {l : List α} {m : List β}, All2 R l m → All2 R' (l.map f) m
  | [], [], _ => trivial
  | _ :: _, _ :: _, h => ⟨hf _ _ h.1, all2_map2 hf h.2⟩
  | [], _ :: _, h => h.elim
  | _ :: _, [], h => h.elim
/-- a number in a symbol's place -/
def pinL (j : Nat) (a : Int) : L → L
  | .int k (.var n) => if Nat.beq n j then .int k (.lit a) else .int k (.var n)
  | .bool (.var n) => if Nat.beq n j then .bool (.lit a) else .bool (.var n)
  | l => l
def pinV (j : Nat) (a : Int) : V → V
  | .val (.one l) => .val (.one (pinL j a l))
  | .val (.agg ls) => .val (.agg (ls.map (pinL j a)))
  | v => v
theorem pinL_ok {E : Env} {j : Nat} {a : Int} (he : E.i j = a) {β : Bm} (l : L) (x : Value) (h : l.rel E β x) : (pinL j a l).rel E β x := by
  unfold pinL
  split
  · split
    · rename_i hn
      have := Nat.eq_of_beq_eq_true hn
      subst this
      simp only [L.rel, den] at h ⊢
      rw [h, he]
    · exact h
  · split
    · rename_i hn
      have := Nat.eq_of_beq_eq_true hn
      subst this
      simp only [L.rel, den] at h ⊢
      rw [h, he]
    · exact h
  · exact h
theorem pinV_ok {E : Env} {j : Nat} {a : Int} (he : E.i j = a) {β : Bm} (v : V) (x : Value) (h : v.rel E β x) : (pinV j a v).rel E β x := by
  unfold pinV
  split
  · exact pinL_ok he _ _ h
  · obtain ⟨cs, h1, h2⟩ := h
    exact ⟨cs, h1, all2_map (pinL_ok he) h2⟩
  · exact h
theorem Holds.pin {P : Program} {G : List (Nat × List L)} {f : FuncId} {vs : List V} {rg : Rng} (j : Nat) (a : Int) (hj : rg[j]? = some (a, a)) (h : Holds P G f (vs.map (pinV j a)) rg) : Holds P G f vs rg := by
  intro E hr xs W hx hglob
  have hb := hr j _ hj
  have he : E.i j = a := by simp only at hb; omega
  exact h E hr xs W (all2_map (pinV_ok he) hx) hglob
/-- a number in a symbol's place, and how many times another one -/
def partL (j : Nat) (a m : Int) : L → L
  | .int k (.var n) => if Nat.beq n j then .int k (.add (.lit a) (.mul (.lit m) (.var j))) else .int k (.var n)
  | .bool (.var n) => if Nat.beq n j then .junk else .bool (.var n)
  | .int k (.lit c) => .int k (.lit c)
  | .bool (.lit c) => .bool (.lit c)
  | .str bs => .str bs
  | .ptr id off => .ptr id off
  | .cst v => .cst v
  | .any i => .any i
  | _ => .junk
def partV (j : Nat) (a m : Int) : V → V
  | .val (.one l) => .val (.one (partL j a m l))
  | .val (.agg ls) => .val (.agg (ls.map (partL j a m)))
  | _ => .val (.one .junk)
def Env.put (E : Env) (j : Nat) (q : Int) : Env := ⟨fun n => if Nat.beq n j then q else E.i n, E.v, E.one⟩
theorem partL_ok {E : Env} {j : Nat} {a m q : Int} (he : E.i j = a + m * q) {β : Bm} (l : L) (x : Value) (h : l.rel E β x) : (partL j a m l).rel (E.put j q) β x := by
  unfold partL
  split
  · split
    · rename_i hn
      have := Nat.eq_of_beq_eq_true hn
      subst this
      simp only [L.rel, den, Env.put, Nat.beq_refl, if_true] at h ⊢
      rw [h, he]
    · rename_i hn
      simp only [L.rel, den, Env.put, if_neg hn] at h ⊢
      exact h
  · split
    · trivial
    · rename_i hn
      simp only [L.rel, den, Env.put, if_neg hn] at h ⊢
      exact h
  all_goals first | exact h | trivial
theorem partV_ok {E : Env} {j : Nat} {a m q : Int} (he : E.i j = a + m * q) {β : Bm} (v : V) (x : Value) (h : v.rel E β x) : (partV j a m v).rel (E.put j q) β x := by
  unfold partV
  split
  · exact partL_ok he _ _ h
  · obtain ⟨cs, h1, h2⟩ := h
    exact ⟨cs, h1, all2_map2 (partL_ok he) h2⟩
  · trivial
theorem Holds.part {P : Program} {G : List (Nat × List L)} {f : FuncId} {vs : List V} {rg : Rng} (j : Nat) (m : Int) (hm : 0 < m) {p : Int × Int} (hj : rg[j]? = some p)
    (h : ∀ a : Int, 0 ≤ a → a < m → Holds P G f (vs.map (partV j a m)) (rg.set j (p.1 / m, p.2 / m))) : Holds P G f vs rg := by
  intro E hr xs W hx hglob
  have hb := hr j _ hj
  have he : E.i j = E.i j % m + m * (E.i j / m) := by have := Int.mul_ediv_add_emod (E.i j) m; omega
  refine h (E.i j % m) (Int.emod_nonneg _ (by omega)) (Int.emod_lt_of_pos _ hm) (E.put j (E.i j / m)) (fun i p' hp => ?_) xs W (all2_map2 (partV_ok he) hx) hglob
  rw [List.getElem?_set] at hp
  split at hp
  · rename_i e; subst e
    split at hp
    · cases hp
      simp only [Env.put, Nat.beq_refl, if_true]
      exact ⟨Int.ediv_le_ediv hm hb.1, Int.ediv_le_ediv hm hb.2⟩
    · cases hp
  · rename_i e
    have := hr i p' hp
    simp only [Env.put]
    have hn : ¬ Nat.beq i j = true := fun h => e (Nat.eq_of_beq_eq_true h).symm
    rw [if_neg hn]; exact this
theorem calls_true {P : Program} {G : List (Nat × List L)} {f : FuncId} {ts : List TypeId} {vs : List V} {rg : Rng}
    (hh : Holds P G f vs rg) (hsym : symArgs P ts 0 = some (vs, rg))
    {W : World} {r : Reach} {base : Nat} {xs : Array Value} (hlen : xs.size = ts.length) (hval : ∀ (j : Nat) t v, ts[j]? = some t → xs[j]? = some v → Value.okWide P W r base t v)
    (hglob : ∀ E, GlobOk E G W) : Calls P f xs W fun e w' => e = .returned (.bool true) ∧ Below W.heap.size W w' := by
  obtain ⟨l, h1, h2, h3⟩ := symArgs_ok hsym xs.toList (by simpa using hlen) (fun i t x ht hx => hval i t x ht (by simpa using hx))
  exact hh (envOf l) (pc_of h2).rng xs.toList W (h3 _ (at_envOf l)) hglob
theorem trodAll_len {H : Type} {enc : TypeId × Value → H} {P : Program} {W : World} {base : Nat} {sp : Nat → Bool} {held : Bool} :
    ∀ {ts : List TypeId} {vs : List Value} {ds : List (DataW H)} {ps : List MemPlace}, DataW.TrodAll enc P W base sp held ts vs ds ps → vs.length = ts.length ∧ ds.length = ts.length
  | [], [], [], _, _ => ⟨rfl, rfl⟩
  | [], [], _ :: _, _, h => h.elim
  | [], _ :: _, _, _, h => h.elim
  | _ :: _, [], _, _, h => h.elim
  | _ :: _, _ :: _, [], _, h => h.elim
  | _ :: _, _ :: _, _ :: _, _, ⟨_, _, _, h, _⟩ => by simp [trodAll_len h]

/-- a whole row's contract -/
theorem row_true {H : Type} {enc : TypeId × Value → H} {P : Program} {G : List (Nat × List L)} {f : FuncId} {fn : Func} {s : ChangeSpec} {ts : List TypeId} {vs : List V} {rg : Rng} {tb : TypeId}
    (hh : Holds P G f vs rg) (hsym : symArgs P ts 0 = some (vs, rg))
    (hpar : fn.params.toList = ts) (hl : laidOutB P = true) (hvars : s.vars = []) (hts : (ts.all fun t => P.readableRec t && decide (t < P.types.size)) = true)
    (hrt : fn.resultTypes = #[tb]) (hb : P.underlying tb = some .bool) (hfn : ∀ ds : List (DataW H), ds.length = ts.length → s.fn H ds = { results := [.lit (.bool true)], args := ds })
    {apart fresh handsOn again : Bool} {W : World} {base : Nat} {args : Array Value} {ds gs : List (DataW H)} {before : List MemPlace}
    (hval : ∀ (j : Nat) t v, fn.params[j]? = some t → args[j]? = some v → Value.okWide P W .any base t v) (hW : DataW.Whole enc P fn.params.toList s.vars apart W args.toList ds gs before) (hglob : ∀ E, GlobOk E G W) :
    Calls P f args W fun e W' => ∃ v, e = .returned v ∧ s.post enc P fn apart fresh handsOn again W args v W' := by
  have hW' := hW
  obtain ⟨p, q, hA, hV, rfl, hfz, hnd⟩ := hW
  rw [hvars] at hV
  obtain ⟨rfl, rfl⟩ := trodVars_none hV
  have hlen := trodAll_len hA
  refine Calls.mono (calls_true hh hsym (W := W) (r := .any) (base := base) (xs := args) (by rw [← hpar]; simpa using hlen.1) (fun j t v h1 h2 => hval j t v (by rw [← hpar] at h1; simpa using h1) h2) hglob) ?_
  rintro e W' ⟨rfl, hbe⟩
  exact ⟨_, rfl, post_true hl hvars (by rw [hpar]; exact hts) hrt hb hW' (by rw [List.append_nil]; exact hfn ds (by rw [hlen.2, hpar])) hbe⟩
end Go.Proofs.YtachmoamlalimaaDoorSx
