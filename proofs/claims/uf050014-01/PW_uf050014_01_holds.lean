import PyProof.Rows.All
import KE.KListMore
import KE.LcSums
import OpenK.KLine
import PyProof.Cells
import PyProof.CompFree
import PyProof.DefCall
import PyProof.DictWalks
import PyProof.Own
import PyProof.Rows.SortShell
import PyProof.SliceMore
import PyProof.WalksEnum
import PyProof.WalksMore
import PyProof.ZipIter
import PySem.Challenge.RW_uf050014_01
set_option Elab.async false
set_option linter.all false
set_option maxRecDepth 100000
set_option maxHeartbeats 8000000
namespace Mine
open PySem

/-- values with the ints' and texts' tokens left out -/
inductive Val where
  | none
  | bool (b : Bool)
  | int (i : Int)
  | str (x : Str)
  | ref (a : Addr)
  | type (n : String)
  | builtin (n : String)
  | other

def er : Value → Val
  | .none => .none
  | .bool b => .bool b
  | .int i _ => .int i
  | .str x _ => .str x
  | .ref a => .ref a
  | .type n => .type n
  | .builtin n => .builtin n
  | _ => .other

theorem er_int {v : Value} {i : Int} (h : er v = .int i) : ∃ t, v = .int i t := by
  cases v <;> simp [er] at h; subst h; exact ⟨_, rfl⟩
theorem er_str {v : Value} {x : Str} (h : er v = .str x) : ∃ t, v = .str x t := by
  cases v <;> simp [er] at h; subst h; exact ⟨_, rfl⟩
theorem er_bool {v : Value} {b : Bool} (h : er v = .bool b) : v = .bool b := by
  cases v <;> simp [er] at h; subst h; rfl
theorem er_none {v : Value} (h : er v = .none) : v = .none := by
  cases v <;> simp [er] at h; rfl
theorem er_ref {v : Value} {a : Addr} (h : er v = .ref a) : v = .ref a := by
  cases v <;> simp [er] at h; subst h; rfl
theorem er_type {v : Value} {n : String} (h : er v = .type n) : v = .type n := by
  cases v <;> simp [er] at h; subst h; rfl
theorem er_builtin {v : Value} {n : String} (h : er v = .builtin n) : v = .builtin n := by
  cases v <;> simp [er] at h; subst h; rfl

/-- the objects that a call has made, flat -/
inductive MObj where
  | list (xs : List Val)
  | tup (xs : List Val)
  | dict (es : List (Int × Val))
  | inst (cls d : Addr)
  | flds (fs : List (Str × Val))
  | cell (v : Option Val)

abbrev MH := Addr → Option MObj

def MH.set (m : MH) (a : Addr) (o : MObj) : MH := fun b => if b = a then some o else m b
theorem MH.set_same {m : MH} {a : Addr} {o : MObj} : m.set a o a = some o := by simp [MH.set]
theorem MH.set_ne {m : MH} {a b : Addr} {o : MObj} (h : b ≠ a) : m.set a o b = m b := by simp [MH.set, h]

def ORel (h : Heap) (a : Addr) : MObj → Prop
  | .list xs => ∃ items, h.PlainList a items ∧ items.toList.map er = xs ∧ xs.length ≤ sizeLine
  | .tup xs => ∃ items n, h.get? a = some { cls := .type "tuple", data := .seq items n } ∧ items.toList.map er = xs ∧ xs.length ≤ sizeLine
  | .dict es => ∃ ds n, h.get? a = some { cls := .type "dict", data := .dict ds n } ∧ ds.toList.map (fun e => (e.hash, er e.key, er e.val)) = es.map (fun p => (hashInt p.1, Val.int p.1, p.2))
  | .inst c d => h.get? a = some { cls := .ref c, dict := some d, data := .plain }
  | .flds fs => ∃ ds n, h.get? a = some { cls := .type "dict", data := .dict ds n } ∧ StrKeys ds ∧ ∀ x, (nsFind ds x).map er = fs.lookup x
  | .cell v => ∃ u, h.IsCell a u ∧ u.map er = v

theorem ORel.live {h : Heap} {a : Addr} : ∀ {o : MObj}, ORel h a o → ∃ x, h.get? a = some x
  | .list _, ⟨_, ⟨_, e⟩, _⟩ => ⟨_, e⟩
  | .tup _, ⟨_, _, e, _⟩ => ⟨_, e⟩
  | .dict _, ⟨_, _, e, _⟩ => ⟨_, e⟩
  | .inst _ _, e => ⟨_, e⟩
  | .flds _, ⟨_, _, e, _⟩ => ⟨_, e⟩
  | .cell _, ⟨_, ⟨_, e, _⟩, _⟩ => ⟨_, e⟩

theorem ORel.keep {h h' : Heap} {a : Addr} (k : ∀ o, h.get? a = some o → h'.get? a = some o) : ∀ {o : MObj}, ORel h a o → ORel h' a o
  | .list _, ⟨_, ⟨n, e⟩, r⟩ => ⟨_, ⟨n, k _ e⟩, r⟩
  | .tup _, ⟨_, _, e, r⟩ => ⟨_, _, k _ e, r⟩
  | .dict _, ⟨_, _, e, r⟩ => ⟨_, _, k _ e, r⟩
  | .inst _ _, e => k _ e
  | .flds _, ⟨_, _, e, r⟩ => ⟨_, _, k _ e, r⟩
  | .cell _, ⟨_, ⟨_, e, d⟩, r⟩ => ⟨_, ⟨_, k _ e, d⟩, r⟩

/-- the frame's own names, in a fixed order -/
abbrev Loc := List (Str × Option Val)
structure St where
  loc : Loc
  cel : Loc
  mh : MH

def LocIs (m : Str → Option Value) (loc : Loc) : Prop := ∀ p ∈ loc, (m p.1).map er = p.2

/-- a block's shape: where its names lie, and what it may write beside its own objects -/
structure Blk where
  sc : Scope
  L : Addr
  cs : List (Str × Addr)
  ex : List Addr

def Env.Is (env : Env) (B : Blk) : Prop := env.scope = B.sc ∧ env.locals = B.L ∧ env.cells = B.cs ∧ env.globals = mainGlobals ∧ B.sc.kind = .function ∧ env.builtins = builtinsNs

structure Rep (H0 : Heap) (B : Blk) (st : St) (h : Heap) : Prop where
  base : ∀ b o, H0.get? b = some o → h.get? b = some o
  ns : ∃ m, h.Ns B.L m ∧ LocIs m st.loc
  kinds : ∀ p ∈ st.loc, B.sc.names.lookup p.1 = some .local ∧ (p.1 == ("__debug__" : Str)) = false
  nodup : (st.loc.map (·.1)).Nodup
  cells : ∀ p ∈ st.cel, ∃ c v, B.cs.lookup p.1 = some c ∧ h.IsCell c v ∧ v.map er = p.2 ∧ st.mh c = none ∧ c ≠ B.L ∧ H0.get? c = none
  ckinds : ∀ p ∈ st.cel, B.sc.names.lookup p.1 = some .cell ∧ (p.1 == ("__debug__" : Str)) = false
  cnodup : (st.cel.map (·.1)).Nodup
  capart : ∀ x y c, B.cs.lookup x = some c → B.cs.lookup y = some c → c ∈ B.ex → x = y
  clive : ∀ x c, B.cs.lookup x = some c → st.mh c = none ∧ ∃ o, h.get? c = some o
  objs : ∀ a mo, st.mh a = some mo → ORel h a mo ∧ H0.get? a = none
  own : ∀ b ∈ B.ex, st.mh b = none ∧ H0.get? b = none ∧ ∃ o, h.get? b = some o
  exL : B.L ∈ B.ex

/-- what is not one's own stays -/
structure Kp (ex : List Addr) (mh mh' : MH) (h h' : Heap) : Prop where
  keep : ∀ b o, h.get? b = some o → mh b = none → b ∉ ex → mh' b = none ∧ h'.get? b = some o
  dom : ∀ b mo, mh b = some mo → ∃ mo', mh' b = some mo'
theorem MH.dom_set {mh mh' : MH} {a : Addr} {o : MObj} (k : ∀ b mo, mh b = some mo → ∃ mo', mh' b = some mo') : ∀ b mo, mh b = some mo → ∃ mo', (mh'.set a o) b = some mo' := fun b mo e => by
  by_cases h : b = a
  · subst h; exact ⟨o, MH.set_same⟩
  · rw [MH.set_ne h]; exact k b mo e
theorem Kp.refl {ex : List Addr} {mh : MH} {h : Heap} : Kp ex mh mh h h := ⟨fun _ _ e n _ => ⟨n, e⟩, fun _ mo e => ⟨mo, e⟩⟩
theorem Kp.trans {ex : List Addr} {m1 m2 m3 : MH} {h1 h2 h3 : Heap} (x : Kp ex m1 m2 h1 h2) (y : Kp ex m2 m3 h2 h3) : Kp ex m1 m3 h1 h3 :=
  ⟨fun b o e n l => let ⟨n', e'⟩ := x.keep b o e n l; y.keep b o e' n' l, fun b mo e => let ⟨_, e'⟩ := x.dom b mo e; y.dom b _ e'⟩

/-- the world around: the program, its world, the heap at the law's call -/
structure Cx where
  prog : Program
  w : World
  H0 : Heap

/-- what a piece of code reaches, over mini-states -/
def Post (X : Cx) (B : Blk) (st : St) (s : Shared) {α : Type} (Q : α → St → Prop) : α → Shared → Prop := fun a s' =>
  ∃ h' tk st', s' = { s with heap := h', toks := tk } ∧ Rep X.H0 B st' h' ∧ Kp B.ex st.mh st'.mh s.heap h' ∧ Q a st'

/-- the weakest precondition over mini-states -/
def W (X : Cx) (A : Around) (B : Blk) {α : Type} (t : Sem α) (Q : α → St → Prop) (E : Value → St → Prop) (st : St) : Prop :=
  ∀ s : Shared, Rep X.H0 B st s.heap → wpAny (model X.prog X.w) A t (Post X B st s Q) (Post X B st s E) s

theorem Post.here {X : Cx} {B : Blk} {st : St} {s : Shared} {α : Type} {Q : α → St → Prop} {a : α} {tk : Nat} (r : Rep X.H0 B st s.heap) (h : Q a st) : Post X B st s Q a { s with toks := tk } :=
  ⟨s.heap, tk, st, rfl, r, .refl, h⟩

section
variable {X : Cx} {A : Around} {B : Blk} {α β : Type} {E E' : Value → St → Prop} {st : St}

theorem Post.mono {s s' : Shared} {Q Q' : α → St → Prop} {a : α} (h : Post X B st s Q a s') (hQ : ∀ st', Q a st' → Q' a st') : Post X B st s Q' a s' :=
  let ⟨h', tk, st', e, r', k, q⟩ := h; ⟨h', tk, st', e, r', k, hQ st' q⟩
theorem W.mono {t : Sem α} {Q Q' : α → St → Prop} (h : W X A B t Q E st) (hQ : ∀ a st', Q a st' → Q' a st') (hE : ∀ e st', E e st' → E' e st') : W X A B t Q' E' st :=
  fun s r => wpAny_mono (h s r) (fun a _ p => p.mono (hQ a)) fun a _ p => p.mono (hE a)

theorem W.weak {t : Sem α} {Q Q' : α → St → Prop} (h : W X A B t Q E st) (hQ : ∀ a st', Q a st' → Q' a st') : W X A B t Q' E st := h.mono hQ fun _ _ e => e

theorem W.pure {a : α} {Q : α → St → Prop} (h : Q a st) : W X A B (pure a) Q E st := fun s r => wpAny_pure (.here r h)

theorem Post.from {s : Shared} {Q : α → St → Prop} {h₁ : Heap} {tk : Nat} {st₀ : St} {a : α} {s' : Shared} (k : Kp B.ex st₀.mh st.mh s.heap h₁) (p : Post X B st { s with heap := h₁, toks := tk } Q a s') : Post X B st₀ s Q a s' :=
  let ⟨h', tk', st', e, r', k', q⟩ := p; ⟨h', tk', st', e, r', k.trans k', q⟩

/-- at a state that is reached from another one -/
theorem W.from {t : Sem α} {Q : α → St → Prop} (h : W X A B t Q E st) {s : Shared} {h₁ : Heap} {tk : Nat} {st₀ : St} (r : Rep X.H0 B st h₁) (k : Kp B.ex st₀.mh st.mh s.heap h₁) :
    wpAny (model X.prog X.w) A t (Post X B st₀ s Q) (Post X B st₀ s E) { s with heap := h₁, toks := tk } :=
  wpAny_mono (h { s with heap := h₁, toks := tk } r) (fun _ _ p => p.from k) fun _ _ p => p.from k

theorem W.bind {m : Sem α} {f : α → Sem β} {Q : β → St → Prop} (h : W X A B m (fun a st' => W X A B (f a) Q E st') E st) : W X A B (m >>= f) Q E st :=
  fun s r => wpAny_bind (wpAny_mono (h s r) (fun a s' ⟨h', tk, st', e, r', k, q⟩ => by subst e; exact q.from r' k) fun _ _ x => x)

theorem W.of_eq {t u : Sem α} {Q : α → St → Prop} (e : t = u) (h : W X A B u Q E st) : W X A B t Q E st := e ▸ h
theorem W.holding {vs : List Value} {m : Sem α} {Q : α → St → Prop} (h : W X A B m Q E st) : W X A B (holding vs m) Q E st := fun s r => wpAny_holding (h s r)
theorem W.standAt {pos : Pos} {Q : Unit → St → Prop} (h : Q () st) : W X A B (standAt pos) Q E st := fun s r => wpAny_standAt (.here r h)
end

/-- a step that makes no object that is seen, and changes none: the same mini-state behind it -/
theorem Rep.ext {H0 : Heap} {B : Blk} {st : St} {h h' : Heap} (r : Rep H0 B st h) (k : ∀ b o, h.get? b = some o → h'.get? b = some o) : Rep H0 B st h' :=
  { r with
    base := fun b o e => k b o (r.base b o e)
    ns := let ⟨m, hn, hl⟩ := r.ns; ⟨m, hn.keeps k, hl⟩
    cells := fun p hp => let ⟨c, v, x, y, z⟩ := r.cells p hp; ⟨c, v, x, y.keeps k, z⟩
    clive := fun x c e => let ⟨n, o, ho⟩ := r.clive x c e; ⟨n, o, k c o ho⟩
    objs := fun a mo e => let ⟨x, y⟩ := r.objs a mo e; ⟨x.keep (k a), y⟩
    own := fun b hb => let ⟨x, y, o, e⟩ := r.own b hb; ⟨x, y, o, k b o e⟩ }
theorem Kp.ext {ex : List Addr} {mh : MH} {h h' : Heap} (k : ∀ b o, h.get? b = some o → h'.get? b = some o) : Kp ex mh mh h h' := ⟨fun b o e n _ => ⟨n, k b o e⟩, fun _ mo e => ⟨mo, e⟩⟩

theorem Rep.fresh {H0 : Heap} {B : Blk} {st : St} {h : Heap} (r : Rep H0 B st h) : st.mh h.objs.size = none := by
  cases e : st.mh h.objs.size with
  | none => rfl
  | some o =>
    obtain ⟨x, hx⟩ := (r.objs _ _ e).1.live
    exact absurd (Heap.lt_size hx) (Nat.lt_irrefl _)
theorem Rep.size {H0 : Heap} {B : Blk} {st : St} {h : Heap} (r : Rep H0 B st h) {b : Addr} {o : Obj} (e : H0.get? b = some o) : b < h.objs.size := Heap.lt_size (r.base b o e)
theorem Rep.freshH0 {H0 : Heap} {B : Blk} {st : St} {h : Heap} (r : Rep H0 B st h) : H0.get? h.objs.size = none := by
  cases q : H0.get? h.objs.size with
  | none => rfl
  | some o' => exact absurd (r.size q) (Nat.lt_irrefl _)

/-- a new object of one's own, all else as it was -/
theorem Rep.alloc {H0 : Heap} {B : Blk} {st : St} {h h' : Heap} (r : Rep H0 B st h) (k : ∀ b o, h.get? b = some o → h'.get? b = some o) {a : Addr} {mo : MObj} (hn : h.get? a = none) (ho : ORel h' a mo) :
    Rep H0 B { st with mh := st.mh.set a mo } h' := by
  have hH0 : H0.get? a = none := by
    cases q : H0.get? a with
    | none => rfl
    | some o' => rw [r.base _ _ q] at hn; cases hn
  have r' := r.ext k
  refine { r' with cells := fun p hp => ?_, clive := fun x c e => ?_, objs := fun b mo' e => ?_, own := fun b hb => ?_ }
  · obtain ⟨c, v, x1, x2, x3, x4, x5⟩ := r'.cells p hp
    refine ⟨c, v, x1, x2, x3, ?_, x5⟩
    obtain ⟨c', v', y1, ⟨o, y2, _⟩, _⟩ := r.cells p hp
    rw [x1] at y1; cases y1
    have : c ≠ a := by rintro rfl; rw [y2] at hn; cases hn
    rw [show (St.mk st.loc st.cel (st.mh.set a mo)).mh c = st.mh c from MH.set_ne this, x4]
  · obtain ⟨n, o, ho'⟩ := r.clive x c e
    have : c ≠ a := by rintro rfl; rw [ho'] at hn; cases hn
    exact ⟨by rw [show (St.mk st.loc st.cel (st.mh.set a mo)).mh c = st.mh c from MH.set_ne this, n], o, k c o ho'⟩
  · by_cases ha : b = a
    · subst ha
      rw [show (St.mk st.loc st.cel (st.mh.set b mo)).mh b = some mo from MH.set_same] at e
      cases e
      exact ⟨ho, hH0⟩
    · rw [show (St.mk st.loc st.cel (st.mh.set a mo)).mh b = st.mh b from MH.set_ne ha] at e
      exact r'.objs b mo' e
  · obtain ⟨x, y, z⟩ := r'.own b hb
    obtain ⟨_, _, o, z'⟩ := r.own b hb
    have : b ≠ a := by rintro rfl; rw [z'] at hn; cases hn
    exact ⟨by rw [show (St.mk st.loc st.cel (st.mh.set a mo)).mh b = st.mh b from MH.set_ne this, x], y, z⟩
theorem Kp.alloc {ex : List Addr} {mh : MH} {h h' : Heap} (k : ∀ b o, h.get? b = some o → h'.get? b = some o) {a : Addr} (mo : MObj) (hn : h.get? a = none) : Kp ex mh (mh.set a mo) h h' :=
  ⟨fun b o' e n _ => ⟨by rw [MH.set_ne (by rintro rfl; rw [e] at hn; cases hn), n], k b o' e⟩, MH.dom_set fun _ mo e => ⟨mo, e⟩⟩


/-- an own object is changed -/
theorem Rep.update {H0 : Heap} {B : Blk} {st : St} {h h' : Heap} (r : Rep H0 B st h) {a : Addr} {mo mo' : MObj} (ha : st.mh a = some mo) (hs : Heap.SameBut a h h') (ho : ORel h' a mo') :
    Rep H0 B { st with mh := st.mh.set a mo' } h' := by
  have ne : ∀ b, st.mh b = none → b ≠ a := fun b hb q => by rw [q, ha] at hb; cases hb
  refine { r with base := fun b o' e => ?_, ns := ?_, cells := fun p hp => ?_, clive := fun x c e => ?_, objs := fun b mo'' e => ?_, own := fun b hb => ?_ }
  · refine (hs.2 b ?_).trans (r.base b o' e)
    rintro rfl
    rw [(r.objs _ _ ha).2] at e; cases e
  · obtain ⟨m, hn, hl⟩ := r.ns
    exact ⟨m, hn.sameBut hs (ne _ (r.own _ r.exL).1), hl⟩
  · obtain ⟨c, v, x1, x2, x3, x4, x5⟩ := r.cells p hp
    exact ⟨c, v, x1, x2.sameBut hs (ne _ x4), x3, by rw [show (St.mk st.loc st.cel (st.mh.set a mo')).mh c = st.mh c from MH.set_ne (ne _ x4), x4], x5⟩
  · obtain ⟨n, o, ho'⟩ := r.clive x c e
    exact ⟨by rw [show (St.mk st.loc st.cel (st.mh.set a mo')).mh c = st.mh c from MH.set_ne (ne _ n), n], o, (hs.2 c (ne _ n)).trans ho'⟩
  · by_cases hb : b = a
    · subst hb
      rw [show (St.mk st.loc st.cel (st.mh.set b mo')).mh b = some mo' from MH.set_same] at e
      cases e
      exact ⟨ho, (r.objs _ _ ha).2⟩
    · rw [show (St.mk st.loc st.cel (st.mh.set a mo')).mh b = st.mh b from MH.set_ne hb] at e
      obtain ⟨x, y⟩ := r.objs b mo'' e
      exact ⟨x.keep fun o' e' => (hs.2 b hb).trans e', y⟩
  · obtain ⟨x, y, o, z⟩ := r.own b hb
    exact ⟨by rw [show (St.mk st.loc st.cel (st.mh.set a mo')).mh b = st.mh b from MH.set_ne (ne _ x), x], y, o, (hs.2 b (ne _ x)).trans z⟩
theorem Kp.update {ex : List Addr} {mh : MH} {h h' : Heap} {a : Addr} {mo mo' : MObj} (ha : mh a = some mo) (hs : Heap.SameBut a h h') : Kp ex mh (mh.set a mo') h h' := by
  refine ⟨fun b o e n _ => ?_, MH.dom_set fun _ mo e => ⟨mo, e⟩⟩
  have hb : b ≠ a := by rintro rfl; rw [ha] at n; cases n
  exact ⟨by rw [MH.set_ne hb, n], (hs.2 b hb).trans e⟩

/-- objects that are no one's are changed -/
def Foreign (H0 : Heap) (B : Blk) (mh : MH) (b : Addr) : Prop := H0.get? b = none ∧ mh b = none ∧ b ∉ B.ex ∧ ∀ x c, B.cs.lookup x = some c → c ≠ b
theorem Rep.but {H0 : Heap} {B : Blk} {st : St} {h h' : Heap} {own : List Addr} (r : Rep H0 B st h) (k : ∀ b o, b ∉ own → h.get? b = some o → h'.get? b = some o) (ho : ∀ b ∈ own, Foreign H0 B st.mh b) : Rep H0 B st h' := by
  have k' : ∀ b o, (∀ c ∈ own, b ≠ c) → h.get? b = some o → h'.get? b = some o := fun b o q e => k b o (fun m => q b m rfl) e
  refine { r with base := fun b o e => k' b o (fun c hc q => by rw [q, (ho c hc).1] at e; cases e) (r.base b o e), ns := ?_, cells := fun p hp => ?_, clive := fun x c e => ?_, objs := fun a mo e => ?_, own := fun b hb => ?_ }
  · obtain ⟨m, ⟨o, es, ep, e, q⟩, hl⟩ := r.ns
    exact ⟨m, ⟨o, es, ep, k' _ o (fun c hc q => (ho c hc).2.2.1 (q ▸ r.exL)) e, q⟩, hl⟩
  · obtain ⟨c, v, x1, ⟨o, x2, x2'⟩, x3⟩ := r.cells p hp
    exact ⟨c, v, x1, ⟨o, k' c o (fun d hd q => (ho d hd).2.2.2 _ _ x1 q) x2, x2'⟩, x3⟩
  · obtain ⟨n, o, e'⟩ := r.clive x c e
    exact ⟨n, o, k' c o (fun d hd q => (ho d hd).2.2.2 _ _ e q) e'⟩
  · obtain ⟨x, y⟩ := r.objs a mo e
    refine ⟨x.keep fun o e' => k' a o (fun d hd q => ?_) e', y⟩
    rw [q, (ho d hd).2.1] at e; cases e
  · obtain ⟨x, y, o, e⟩ := r.own b hb
    exact ⟨x, y, o, k' b o (fun d hd q => (ho d hd).2.2.1 (q ▸ hb)) e⟩
/-- a foreign object becomes one's own -/
theorem Rep.adopt {H0 : Heap} {B : Blk} {st : St} {h : Heap} {T : Addr} {mo : MObj} (r : Rep H0 B st h) (f : Foreign H0 B st.mh T) (ho : ORel h T mo) : Rep H0 B { st with mh := st.mh.set T mo } h := by
  obtain ⟨f1, f2, f3, f4⟩ := f
  refine { r with cells := fun p hp => ?_, clive := fun x c e => ?_, objs := fun a mo' e => ?_, own := fun b hb => ?_ }
  · obtain ⟨c, v, x1, x2, x3, x4, x5⟩ := r.cells p hp
    exact ⟨c, v, x1, x2, x3, by rw [show (St.mk st.loc st.cel (st.mh.set T mo)).mh c = st.mh c from MH.set_ne (f4 _ _ x1), x4], x5⟩
  · obtain ⟨n, o, ho'⟩ := r.clive x c e
    exact ⟨by rw [show (St.mk st.loc st.cel (st.mh.set T mo)).mh c = st.mh c from MH.set_ne (f4 _ _ e), n], o, ho'⟩
  · by_cases ha : a = T
    · subst ha
      rw [show (St.mk st.loc st.cel (st.mh.set a mo)).mh a = some mo from MH.set_same] at e
      cases e
      exact ⟨ho, f1⟩
    · rw [show (St.mk st.loc st.cel (st.mh.set T mo)).mh a = st.mh a from MH.set_ne ha] at e
      exact r.objs a mo' e
  · obtain ⟨x, y, z⟩ := r.own b hb
    exact ⟨by rw [show (St.mk st.loc st.cel (st.mh.set T mo)).mh b = st.mh b from MH.set_ne fun q => f3 (q ▸ hb), x], y, z⟩
theorem Kp.adopt {ex : List Addr} {m1 m2 : MH} {h1 h2 : Heap} {T : Addr} {mo : MObj} (k : Kp ex m1 m2 h1 h2) (hT : h1.get? T = none) : Kp ex m1 (m2.set T mo) h1 h2 :=
  ⟨fun b o e n l => ⟨by rw [MH.set_ne (by rintro rfl; rw [e] at hT; cases hT)]; exact (k.keep b o e n l).1, (k.keep b o e n l).2⟩, MH.dom_set k.dom⟩
theorem Kp.but {ex own : List Addr} {m1 m2 : MH} {h1 h2 h3 : Heap} (k : Kp ex m1 m2 h1 h2) (k' : ∀ b o, b ∉ own → h2.get? b = some o → h3.get? b = some o) (ho : ∀ b ∈ own, h1.get? b = none) : Kp ex m1 m2 h1 h3 :=
  ⟨fun b o e n l => ⟨(k.keep b o e n l).1, k' b o (fun hb => by rw [ho b hb] at e; cases e) (k.keep b o e n l).2⟩, k.dom⟩
theorem Kp.fresh {H0 : Heap} {B : Blk} {st st' : St} {h h' : Heap} (r : Rep H0 B st h) (r' : Rep H0 B st' h') (k : Kp B.ex st.mh st'.mh h h') {b : Addr} (hb : h'.get? b = none) : h.get? b = none := by
  cases e : h.get? b with
  | none => rfl
  | some o =>
    exfalso
    cases hm : st.mh b with
    | some mo =>
      obtain ⟨mo', hm'⟩ := k.dom b mo hm
      obtain ⟨o', ho'⟩ := (r'.objs b _ hm').1.live
      rw [ho'] at hb; cases hb
    | none =>
      by_cases hx : b ∈ B.ex
      · obtain ⟨_, _, o', ho'⟩ := r'.own b hx
        rw [ho'] at hb; cases hb
      · rw [(k.keep b o e hm hx).2] at hb; cases hb
/-- what is new behind a step is foreign -/
theorem Rep.foreign {H0 : Heap} {B : Blk} {st : St} {h : Heap} (r : Rep H0 B st h) {b : Addr} (hb : h.get? b = none) : Foreign H0 B st.mh b := by
  refine ⟨?_, ?_, fun m => ?_, fun x c e q => ?_⟩
  · cases e : H0.get? b with
    | none => rfl
    | some o => rw [r.base b o e] at hb; cases hb
  · cases e : st.mh b with
    | none => rfl
    | some mo => obtain ⟨o, ho⟩ := (r.objs b mo e).1.live; rw [ho] at hb; cases hb
  · obtain ⟨_, _, o, e⟩ := r.own b m; rw [e] at hb; cases hb
  · obtain ⟨_, o, e'⟩ := r.clive x c e; rw [q, hb] at e'; cases e'

/-- names looked up in a written list -/
inductive Look : Loc → Str → Val → Prop where
  | here {x : Str} {v : Val} {r : Loc} : Look ((x, some v) :: r) x v
  | there {p : Str × Option Val} {x : Str} {v : Val} {r : Loc} : Look r x v → Look (p :: r) x v
inductive Put : Loc → Str → Val → Loc → Prop where
  | here {x : Str} {o : Option Val} {v : Val} {r : Loc} : Put ((x, o) :: r) x v ((x, some v) :: r)
  | there {p : Str × Option Val} {x : Str} {v : Val} {r r' : Loc} : Put r x v r' → Put (p :: r) x v (p :: r')
theorem Look.mem {l : Loc} {x : Str} {v : Val} (h : Look l x v) : (x, some v) ∈ l := by
  induction h with
  | here => exact List.mem_cons_self
  | there _ ih => exact List.mem_cons_of_mem _ ih
theorem Put.names {l l' : Loc} {x : Str} {v : Val} (h : Put l x v l') : l'.map (·.1) = l.map (·.1) := by
  induction h with
  | here => rfl
  | there _ ih => simp [ih]
theorem Put.mem {l l' : Loc} {x : Str} {v : Val} (h : Put l x v l') : ∃ o, (x, o) ∈ l := by
  induction h with
  | here => exact ⟨_, List.mem_cons_self⟩
  | there _ ih => exact ⟨_, List.mem_cons_of_mem _ ih.choose_spec⟩
theorem Put.is {l l' : Loc} {x : Str} {v : Val} (h : Put l x v l') (nd : (l.map (·.1)).Nodup) : ∀ p ∈ l', (p.1 = x ∧ p.2 = some v) ∨ (p.1 ≠ x ∧ p ∈ l) := by
  induction h with
  | @here x o v r =>
    intro p hp
    rcases List.mem_cons.mp hp with rfl | hp
    · exact .inl ⟨rfl, rfl⟩
    · refine .inr ⟨fun e => ?_, List.mem_cons_of_mem _ hp⟩
      rw [List.map_cons, List.nodup_cons] at nd
      exact nd.1 (e ▸ List.mem_map_of_mem (f := (·.1)) hp)
  | @there q x v r r' hr ih =>
    rw [List.map_cons, List.nodup_cons] at nd
    intro p hp
    rcases List.mem_cons.mp hp with rfl | hp
    · refine .inr ⟨fun e => ?_, List.mem_cons_self⟩
      obtain ⟨o, ho⟩ := hr.mem
      exact nd.1 (e ▸ List.mem_map_of_mem (f := (·.1)) ho)
    · rcases ih nd.2 p hp with h | ⟨h1, h2⟩
      · exact .inl h
      · exact .inr ⟨h1, List.mem_cons_of_mem _ h2⟩

section
variable {X : Cx} {A : Around} {B : Blk} {E : Value → St → Prop} {st : St} {env : Env}

/-- a name of the frame's own -/
theorem W.load_local {x : Str} {v : Val} {pos : Pos} {Q : Value → St → Prop} (he : Env.Is env B) (hx : Look st.loc x v) (h : ∀ u, er u = v → Q u st) : W X A B (eval (.Name x pos) env) Q E st := fun s r => by
  obtain ⟨e1, e2, e3, e4, e5, e6⟩ := he
  obtain ⟨m, hn, hl⟩ := r.ns
  have hk := r.kinds _ hx.mem
  have hv := hl _ hx.mem
  obtain ⟨u, hu, hu'⟩ : ∃ u, m x = some u ∧ er u = v := by
    cases hm : m x with
    | none => rw [show (x, some v).1 = x from rfl, hm] at hv; cases hv
    | some u => rw [show (x, some v).1 = x from rfl, hm] at hv; exact ⟨u, rfl, by simpa using hv⟩
  refine wpAny_Name (hd := hk.2) <| wpAny_loadName_local (by rw [e1]; exact e5) (by show env.scope.names.lookup x = _; rw [e1]; exact hk.1) (e2 ▸ hn) hu (.here r (h u hu'))

theorem W.load_cell {x : Str} {v : Val} {pos : Pos} {Q : Value → St → Prop} (he : Env.Is env B) (hx : Look st.cel x v) (h : ∀ u, er u = v → Q u st) : W X A B (eval (.Name x pos) env) Q E st := fun s r => by
  obtain ⟨e1, e2, e3, e4, e5, e6⟩ := he
  obtain ⟨c, u, y1, y2, y3, _⟩ := r.cells _ hx.mem
  have hk := r.ckinds _ hx.mem
  cases u with
  | none => cases y3
  | some u => exact wpAny_Name (hd := hk.2) <| wpAny_loadName_cell (by rw [e1]; exact e5) (by show env.scope.names.lookup x = _; rw [e1]; exact hk.1) (by rw [e3]; exact y1) y2 (.here r (h u (by simpa using y3)))

theorem Rep.storeL {H0 : Heap} {x : Str} {v : Value} {loc' : Loc} {h h' : Heap} (r : Rep H0 B st h) (hp : Put st.loc x (er v) loc') {m : Str → Option Value} (hl : LocIs m st.loc)
    (hn' : h'.Ns B.L (fun y => if y = x then some v else m y)) (hs : Heap.SameBut B.L h h') : Rep H0 B { st with loc := loc' } h' := by
  have neL : ∀ b o, H0.get? b = some o → b ≠ B.L := fun b o e q => by rw [q, (r.own _ r.exL).2.1] at e; cases e
  refine { r with base := fun b o e => (hs.2 b (neL b o e)).trans (r.base b o e), ns := ⟨_, hn', ?_⟩, kinds := ?_, nodup := by rw [show (St.mk loc' st.cel st.mh).loc = loc' from rfl, hp.names]; exact r.nodup, cells := ?_, clive := ?_, objs := ?_, own := ?_ }
  · intro p hp'
    rcases hp.is r.nodup p hp' with ⟨e1, e2⟩ | ⟨e1, e2⟩
    · rw [e1, e2]; simp
    · simp [e1, hl p e2]
  · intro p hp'
    have : p.1 ∈ st.loc.map (·.1) := hp.names ▸ List.mem_map_of_mem (f := (·.1)) hp'
    obtain ⟨q, hq, e⟩ := List.mem_map.mp this
    rw [← e]; exact r.kinds q hq
  · intro p hp'
    obtain ⟨c, u, y1, y2, y3, y4, y5, y6⟩ := r.cells p hp'
    exact ⟨c, u, y1, y2.sameBut hs y5, y3, y4, y5, y6⟩
  · intro y c e
    obtain ⟨n, o, ho⟩ := r.clive y c e
    by_cases hc : c = B.L
    · subst hc; obtain ⟨o', _, _, e', _⟩ := hn'; exact ⟨n, o', e'⟩
    · exact ⟨n, o, (hs.2 c hc).trans ho⟩
  · intro a mo e
    have ha : a ≠ B.L := fun q => by rw [show (St.mk loc' st.cel st.mh).mh a = st.mh a from rfl, q, (r.own _ r.exL).1] at e; cases e
    obtain ⟨y, z⟩ := r.objs a mo e
    exact ⟨y.keep fun o e' => (hs.2 a ha).trans e', z⟩
  · intro b hb
    obtain ⟨y1, y2, o, y3⟩ := r.own b hb
    refine ⟨y1, y2, ?_⟩
    by_cases hbL : b = B.L
    · subst hbL
      obtain ⟨o', _, _, e, _⟩ := hn'
      exact ⟨o', e⟩
    · exact ⟨o, (hs.2 b hbL).trans y3⟩

theorem W.store_local {x : Str} {v : Value} {loc' : Loc} {Q : Unit → St → Prop} (he : Env.Is env B) (hp : Put st.loc x (er v) loc') (h : Q () { st with loc := loc' }) : W X A B (storeName env x v) Q E st := fun s r => by
  obtain ⟨e1, e2, e3, e4, e5, e6⟩ := id he
  obtain ⟨m, hn, hl⟩ := r.ns
  obtain ⟨o, ho⟩ := hp.mem
  have hk := r.kinds _ ho
  refine wpAny_storeName_local (by show env.scope.names.lookup x = _; rw [e1]; exact hk.1) (e2 ▸ hn) (fun h' hn' hs => ?_) (by rw [e1, e5]; rfl)
  rw [e2] at hs hn'
  refine ⟨h', _, _, rfl, r.storeL hp hl hn' hs, ⟨fun b o e n l => ⟨n, (hs.2 b fun q => l (q ▸ r.exL)).trans e⟩, fun _ mo e => ⟨mo, e⟩⟩, h⟩

theorem W.store_cell {x : Str} {v : Value} {cel' : Loc} {c : Addr} {Q : Unit → St → Prop} (he : Env.Is env B) (hp : Put st.cel x (er v) cel') (hc : B.cs.lookup x = some c) (hx : c ∈ B.ex) (h : Q () { st with cel := cel' }) :
    W X A B (storeName env x v) Q E st := fun s r => by
  obtain ⟨e1, e2, e3, e4, e5, e6⟩ := id he
  obtain ⟨o, ho⟩ := hp.mem
  have hk := r.ckinds _ ho
  obtain ⟨c', u, y1, y2, y3, y4, y5, y6⟩ := r.cells _ ho
  rw [show (x, o).1 = x from rfl, hc] at y1; cases y1
  refine wpAny_storeName_cell (by rw [e1]; exact e5) (by show env.scope.names.lookup x = _; rw [e1]; exact hk.1) (by rw [e3]; exact hc) y2 (fun h' hn' hs => ?_)
  refine ⟨h', _, { st with cel := cel' }, rfl, ?_, ⟨fun b o e n l => ⟨n, (hs.2 b fun q => l (q ▸ hx)).trans e⟩, fun _ mo e => ⟨mo, e⟩⟩, h⟩
  have nec : ∀ b o, X.H0.get? b = some o → b ≠ c := fun b o e q => by rw [q, y6] at e; cases e
  refine { r with base := fun b o e => (hs.2 b (nec b o e)).trans (r.base b o e), ns := ?_, cells := ?_, clive := ?_, ckinds := ?_, cnodup := by rw [show (St.mk st.loc cel' st.mh).cel = cel' from rfl, hp.names]; exact r.cnodup, objs := ?_, own := ?_ }
  · obtain ⟨m, hn, hl⟩ := r.ns
    exact ⟨m, hn.sameBut hs (Ne.symm y5), hl⟩
  · intro p hp'
    rcases hp.is r.cnodup p hp' with ⟨e1, e2⟩ | ⟨e1, e2⟩
    · exact ⟨c, some v, by rw [e1]; exact hc, hn', by rw [e2]; rfl, y4, y5, y6⟩
    · obtain ⟨c', u', z1, z2, z3, z4, z5, z6⟩ := r.cells p e2
      exact ⟨c', u', z1, z2.sameBut hs (fun q => e1 (r.capart _ _ c (q ▸ z1) hc hx)), z3, z4, z5, z6⟩
  · intro p hp'
    have : p.1 ∈ st.cel.map (·.1) := hp.names ▸ List.mem_map_of_mem (f := (·.1)) hp'
    obtain ⟨q, hq, e⟩ := List.mem_map.mp this
    rw [← e]; exact r.ckinds q hq
  · intro y c' e
    obtain ⟨n, o, ho⟩ := r.clive y c' e
    by_cases hcc : c' = c
    · subst hcc; obtain ⟨o', e', _⟩ := hn'; exact ⟨n, o', e'⟩
    · exact ⟨n, o, (hs.2 c' hcc).trans ho⟩
  · intro a mo e
    have ha : a ≠ c := fun q => by rw [show (St.mk st.loc cel' st.mh).mh a = st.mh a from rfl, q, y4] at e; cases e
    obtain ⟨y, z⟩ := r.objs a mo e
    exact ⟨y.keep fun o e' => (hs.2 a ha).trans e', z⟩
  · intro b hb
    obtain ⟨z1, z2, o, z3⟩ := r.own b hb
    refine ⟨z1, z2, ?_⟩
    by_cases hbc : b = c
    · subst hbc
      obtain ⟨o', e, _⟩ := hn'
      exact ⟨o', e⟩
    · exact ⟨o, (hs.2 b hbc).trans z3⟩
end
end Mine

namespace Mine
open PySem PySem.Calls PyProof.Rows PySem.W

/-- where a piece of code runs -/
structure Fx where
  A : Around
  B : Blk
  env : Env

abbrev EQ := Value → St → Prop
abbrev VQ := Val → Loc → Loc → MH → Prop
abbrev BQ := Bool → Loc → Loc → MH → Prop
abbrev LQ := List Val → Loc → Loc → MH → Prop
abbrev SQ := Loc → Loc → MH → Prop
inductive Fl where
  | next | brk | cont
  | ret (v : Val)
abbrev FQ := Fl → Loc → Loc → MH → Prop
def erF : Flow → Fl
  | .next => .next
  | .brk => .brk
  | .cont => .cont
  | .ret v => .ret (er v)

/-- room for so many frames more -/
structure Room (A : Around) (n : Nat) : Prop where
  hh : A.handled = none
  hd : A.depth + n < recursionLimit
  hu : A.units + 10 * n + 50 < cLine
  hg : A.guards = some []
  hf : ∃ l, A.frames = some l

/-- the block that runs is one of the text's -/
def TopFr (A : Around) : Prop := ∃ e l, A.frames = some (e :: l) ∧ e.scope.isGenerator = false ∧ e.scope.isCoroutine = false ∧ e.builtins = builtinsNs ∧ e.globals = mainGlobals

/-- a frame is as its scope says -/
structure Ok (F : Fx) (sc : Scope) (n : Nat) : Prop where
  he : Env.Is F.env F.B
  hsc : F.B.sc = sc
  room : Room F.A n
  top : TopFr F.A
  nd : (sc.names.map (·.1)).Nodup


section
variable (X : Cx) (F : Fx)
def WV (t : Sem Value) (Q : VQ) (E : EQ) (lo ce : Loc) (mh : MH) : Prop := W X F.A F.B t (fun u st' => Q (er u) st'.loc st'.cel st'.mh) E ⟨lo, ce, mh⟩
def WE (e : Expr) (Q : VQ) (E : EQ) (lo ce : Loc) (mh : MH) : Prop := WV X F (eval e F.env) Q E lo ce mh
def WT (e : Expr) (Q : BQ) (E : EQ) (lo ce : Loc) (mh : MH) : Prop := W X F.A F.B (isTrue e F.env (eval e F.env)) (fun u st' => Q u st'.loc st'.cel st'.mh) E ⟨lo, ce, mh⟩
def WTA (op : BoolOp) (es : List Expr) (Q : BQ) (E : EQ) (lo ce : Loc) (mh : MH) : Prop := W X F.A F.B (allTrue op es F.env) (fun u st' => Q u st'.loc st'.cel st'.mh) E ⟨lo, ce, mh⟩
def WL (es : List Expr) (pos : Pos) (Q : LQ) (E : EQ) (lo ce : Loc) (mh : MH) : Prop := W X F.A F.B (spliced (backTo pos (starEach es F.env))) (fun us st' => Q (us.map er) st'.loc st'.cel st'.mh) E ⟨lo, ce, mh⟩
def WS (s : Stmt) (Q : FQ) (E : EQ) (lo ce : Loc) (mh : MH) : Prop := W X F.A F.B (exec s F.env) (fun f st' => Q (erF f) st'.loc st'.cel st'.mh) E ⟨lo, ce, mh⟩
def WB (ss : List Stmt) (Q : FQ) (E : EQ) (lo ce : Loc) (mh : MH) : Prop := W X F.A F.B (execs ss F.env) (fun f st' => Q (erF f) st'.loc st'.cel st'.mh) E ⟨lo, ce, mh⟩

def BinV (op : Operator) (v w : Val) (Q : VQ) (E : EQ) (lo ce : Loc) (mh : MH) : Prop := ∀ a b, er a = v → er b = w → WV X F (binaryOp op a b) Q E lo ce mh
def CmpV (op : CmpOp) (v w : Val) (Q : VQ) (E : EQ) (lo ce : Loc) (mh : MH) : Prop := ∀ a b, er a = v → er b = w → WV X F (compareOp op a b) Q E lo ce mh
def UnV (op : UnaryOp) (v : Val) (Q : VQ) (E : EQ) (lo ce : Loc) (mh : MH) : Prop := ∀ a, er a = v → WV X F (unaryOp op a) Q E lo ce mh
def TruV (v : Val) (Q : BQ) (E : EQ) (lo ce : Loc) (mh : MH) : Prop := ∀ a, er a = v → W X F.A F.B (truthy a) (fun u st' => Q u st'.loc st'.cel st'.mh) E ⟨lo, ce, mh⟩
def StoV (x : Str) (v : Val) (Q : SQ) (E : EQ) (lo ce : Loc) (mh : MH) : Prop := ∀ a, er a = v → W X F.A F.B (storeName F.env x a) (fun _ st' => Q st'.loc st'.cel st'.mh) E ⟨lo, ce, mh⟩
def AssV (t : Expr) (v : Val) (Q : SQ) (E : EQ) (lo ce : Loc) (mh : MH) : Prop := ∀ a, er a = v → W X F.A F.B (assign t F.env a) (fun _ st' => Q st'.loc st'.cel st'.mh) E ⟨lo, ce, mh⟩
def SubV (value slice : Expr) (v w : Val) (Q : VQ) (E : EQ) (lo ce : Loc) (mh : MH) : Prop := ∀ a b, er a = v → er b = w → WV X F (subscriptTail value slice a b) Q E lo ce mh
/-- a call of a value with values -/
def CallV (f : Val) (vs : List Val) (Q : VQ) (E : EQ) (lo ce : Loc) (mh : MH) : Prop := ∀ a as, er a = f → as.map er = vs → WV X F (call a as) Q E lo ce mh
/-- a method looked up -/
def MethV (v : Val) (name : Str) (Q : Val → LQ) (E : EQ) (lo ce : Loc) (mh : MH) : Prop := ∀ (a : Value) (pl : Sem Bool), er a = v → W X F.A F.B (getMethod a name pl) (fun fx st' => Q (er fx.1) (fx.2.map er) st'.loc st'.cel st'.mh) E ⟨lo, ce, mh⟩
def AttV (v : Val) (name : Str) (Q : VQ) (E : EQ) (lo ce : Loc) (mh : MH) : Prop := ∀ a, er a = v → WV X F (getAttr a name true) Q E lo ce mh
end

section
variable {X : Cx} {A : Around} {B : Blk} {α : Type} {E : EQ} {st : St}
theorem W.operate {vs : List Value} {m : Sem Value} {Q : Value → St → Prop} (h : W X A B m Q E st) : W X A B (operate vs m) Q E st := fun s r Γ p hΓ => by
  rw [Sem.wp_operate]; exact h s r Γ p hΓ
theorem map_er1 {as : List Value} {v : Val} (h : as.map er = [v]) : ∃ a, as = [a] ∧ er a = v := by
  match as, h with
  | [a], h => exact ⟨a, rfl, by rw [List.map_cons, List.map_nil, List.cons.injEq] at h; exact h.1⟩
theorem map_er2 {as : List Value} {v w : Val} (h : as.map er = [v, w]) : ∃ a b, as = [a, b] ∧ er a = v ∧ er b = w := by
  match as, h with
  | [a, b], h => exact ⟨a, b, rfl, by simp only [List.map_cons, List.map_nil, List.cons.injEq] at h; exact ⟨h.1, h.2.1⟩⟩
theorem map_er3 {as : List Value} {v w x : Val} (h : as.map er = [v, w, x]) : ∃ a b c, as = [a, b, c] ∧ er a = v ∧ er b = w ∧ er c = x := by
  match as, h with
  | [a, b, c], h => exact ⟨a, b, c, rfl, by simp only [List.map_cons, List.map_nil, List.cons.injEq] at h; exact ⟨h.1, h.2.1, h.2.2.1⟩⟩
theorem W.bindName {env : Env} {x : Str} {v : Value} {Q : Unit → St → Prop} (h : W X A B (storeName env x v) Q E st) : W X A B (bindName env x v) Q E st := fun s r => wpAny_bindName (h s r)
end

section
variable {X : Cx} {F : Fx} {sc : Scope} {n : Nat} {E : EQ} {lo ce : Loc} {mh : MH}

theorem WT.weak {e : Expr} {Q Q' : BQ} (h : WT X F e Q E lo ce mh) (hQ : ∀ v l c m, Q v l c m → Q' v l c m) : WT X F e Q' E lo ce mh := W.weak h fun _ _ q => hQ _ _ _ _ q
theorem WB.weak {ss : List Stmt} {Q Q' : FQ} (h : WB X F ss Q E lo ce mh) (hQ : ∀ v l c m, Q v l c m → Q' v l c m) : WB X F ss Q' E lo ce mh := W.weak h fun _ _ q => hQ _ _ _ _ q

theorem WE.cint {i : Int} {k : Nat} {pos : Pos} {Q : VQ} (h : Q (.int i) lo ce mh) : WE X F (.Constant (.int i) k pos) Q E lo ce mh := fun s r => wpAny_Constant_int (.here r h)
theorem WE.cbool {b : Bool} {k : Nat} {pos : Pos} {Q : VQ} (h : Q (.bool b) lo ce mh) : WE X F (.Constant (.bool b) k pos) Q E lo ce mh := W.pure (a := Value.bool b) h

theorem WE.local {x : Str} {pos : Pos} {v : Val} {Q : VQ} (ok : Ok F sc n) (hx : Look lo x v) (h : Q v lo ce mh) : WE X F (.Name x pos) Q E lo ce mh := W.load_local ok.he hx fun u hu => by rw [hu]; exact h
theorem WE.cell {x : Str} {pos : Pos} {v : Val} {Q : VQ} (ok : Ok F sc n) (hx : Look ce x v) (h : Q v lo ce mh) : WE X F (.Name x pos) Q E lo ce mh := W.load_cell ok.he hx fun u hu => by rw [hu]; exact h

/-- a name of the module, or of the builtins -/
def Glb (H0 : Heap) (x : Str) (v : Val) : Prop := ∃ mg mb u, H0.Ns mainGlobals mg ∧ H0.Ns builtinsNs mb ∧ (mg x = some u ∨ (mg x = none ∧ mb x = some u)) ∧ er u = v ∧ (x == ("__debug__" : Str)) = false
theorem lookup_of_nodup {α : Type} : ∀ {l : List (Str × α)}, (l.map (·.1)).Nodup → ∀ p ∈ l, l.lookup p.1 = some p.2
  | q :: r, nd, p, hp => by
    rw [List.map_cons, List.nodup_cons] at nd
    rcases List.mem_cons.mp hp with rfl | hp
    · rw [List.lookup_cons, beq_self_eq_true]
    · have : p.1 ≠ q.1 := fun e => nd.1 (e ▸ List.mem_map_of_mem (f := (·.1)) hp)
      have hb : (p.1 == q.1) = false := beq_eq_false_iff_ne.mpr this
      rw [List.lookup_cons, hb]
      exact lookup_of_nodup nd.2 p hp
theorem WE.global {kd : ScopeKind} {ns : List (Str × NameKind)} {ig ic : Bool} {mo : List (Str × Const)} {x : Str} {pos : Pos} {v : Val} {Q : VQ} (ok : Ok F ⟨kd, ns, ig, ic, mo⟩ n) (g : Glb X.H0 x v) (hk' : (x, NameKind.globalImplicit) ∈ ns) (h : Q v lo ce mh) : WE X F (.Name x pos) Q E lo ce mh := fun s r => by
  obtain ⟨e1, e2, e3, e4, e5, e6⟩ := ok.he
  obtain ⟨mg, mb, u, hg, hb, hu, hv, hd⟩ := g
  have hk : ns.lookup x = some .globalImplicit := lookup_of_nodup ok.nd _ hk'
  refine Name_function_global (by rw [e1]; exact e5) (by show F.env.scope.names.lookup x = _; rw [e1, ok.hsc]; exact hk) ?_ hd
  rcases hu with hu | ⟨hn, hu⟩
  · exact loadGlobal_global (by rw [e4]; exact hg.keeps r.base) hu (.here r (by rw [hv]; exact h))
  · exact loadGlobal_builtin (by rw [e4]; exact hg.keeps r.base) hn (by rw [e6]; exact hb.keeps r.base) hu (.here r (by rw [hv]; exact h))

theorem WE.binop {l r : Expr} {op : Operator} {pos : Pos} {Q : VQ} (h : WE X F l (fun v l1 c1 m1 => WE X F r (fun w l2 c2 m2 => BinV X F op v w Q E l2 c2 m2) E l1 c1 m1) E lo ce mh) : WE X F (.BinOp l op r pos) Q E lo ce mh :=
  W.of_eq (eval_BinOp ..) (W.bind (W.weak h fun a st1 h1 => W.bind (W.holding (W.weak h1 fun b st2 h2 => W.bind (W.standAt (W.operate (h2 a b rfl rfl)))))))
theorem WE.unop {x : Expr} {op : UnaryOp} {pos : Pos} {Q : VQ} (h : WE X F x (fun v l1 c1 m1 => UnV X F op v Q E l1 c1 m1) E lo ce mh) : WE X F (.UnaryOp op x pos) Q E lo ce mh :=
  W.of_eq (eval_UnaryOp ..) (W.bind (W.weak h fun a st1 h1 => W.bind (W.standAt (W.holding (h1 a rfl)))))
theorem WE.cmp {l r : Expr} {op : CmpOp} {pos : Pos} {Q : VQ} (h : WE X F l (fun v l1 c1 m1 => WE X F r (fun w l2 c2 m2 => CmpV X F op v w Q E l2 c2 m2) E l1 c1 m1) E lo ce mh) (hm : behindInMarks op r = false := by with_unfolding_all rfl) : WE X F (.Compare l [op] [r] pos) Q E lo ce mh :=
  W.of_eq (by rw [eval_Compare1, markedBehindIn_of_false hm]) (W.bind (W.weak h fun a st1 h1 => W.bind (W.holding (W.weak h1 fun b st2 h2 => W.bind (W.standAt (W.operate (h2 a b rfl rfl)))))))
theorem WT.cmp {l r : Expr} {op : CmpOp} {pos : Pos} {Q : BQ} (h : WE X F l (fun v l1 c1 m1 => WE X F r (fun w l2 c2 m2 => CmpV X F op v w (fun c l3 c3 m3 => TruV X F c Q E l3 c3 m3) E l2 c2 m2) E l1 c1 m1) E lo ce mh) (hm : behindInMarks op r = false := by with_unfolding_all rfl) : WT X F (.Compare l [op] [r] pos) Q E lo ce mh :=
  W.of_eq (by rw [isTrue_Compare1, markedBehindIn_of_false hm]) (W.bind (W.weak h fun a st1 h1 => W.bind (W.holding (W.weak h1 fun b st2 h2 => W.bind (W.standAt (W.bind (W.weak (W.operate (h2 a b rfl rfl)) fun c st3 h3 => W.holding (h3 c rfl))))))))
theorem WT.plain {e : Expr} {Q : BQ} (h : WE X F e (fun v l1 c1 m1 => TruV X F v Q E l1 c1 m1) E lo ce mh) (he : isTrue e F.env (eval e F.env) = (do let v ← eval e F.env; standAt e.pos; holding [v] (truthy v)) := by rfl) : WT X F e Q E lo ce mh :=
  W.of_eq he (W.bind (W.weak h fun a st1 h1 => W.bind (W.standAt (W.holding (h1 a rfl)))))
theorem WT.not {x : Expr} {pos : Pos} {Q : BQ} (h : WT X F x (fun b l1 c1 m1 => Q (!b) l1 c1 m1) E lo ce mh) : WT X F (.UnaryOp .Not x pos) Q E lo ce mh :=
  W.of_eq (u := do return !(← isTrue x F.env (eval x F.env))) rfl (W.bind (W.weak h fun a st1 h1 => W.pure h1))

theorem WT.boolop {op : BoolOp} {es : List Expr} {pos : Pos} {Q : BQ} (h : WTA X F op es Q E lo ce mh) : WT X F (.BoolOp op es pos) Q E lo ce mh := h
theorem WTA.nilAnd {Q : BQ} (h : Q true lo ce mh) : WTA X F .And [] Q E lo ce mh := W.pure (a := true) h
theorem WTA.nilOr {Q : BQ} (h : Q false lo ce mh) : WTA X F .Or [] Q E lo ce mh := W.pure (a := false) h
theorem WTA.and {e : Expr} {es : List Expr} {Q : BQ} (h : WT X F e (fun b l1 c1 m1 => (b = true → WTA X F .And es Q E l1 c1 m1) ∧ (b = false → Q false l1 c1 m1)) E lo ce mh) : WTA X F .And (e :: es) Q E lo ce mh := by
  refine W.of_eq (u := (do match BoolOp.And, ← isTrue e F.env (eval e F.env) with
    | .And, false => pure false
    | .Or, true => pure true
    | _, _ => allTrue .And es F.env)) rfl (W.bind (W.weak h fun b st1 h1 => ?_))
  cases b with
  | true => exact h1.1 rfl
  | false => exact W.pure (h1.2 rfl)
theorem WTA.or {e : Expr} {es : List Expr} {Q : BQ} (h : WT X F e (fun b l1 c1 m1 => (b = true → Q true l1 c1 m1) ∧ (b = false → WTA X F .Or es Q E l1 c1 m1)) E lo ce mh) : WTA X F .Or (e :: es) Q E lo ce mh := by
  refine W.of_eq (u := (do match BoolOp.Or, ← isTrue e F.env (eval e F.env) with
    | .And, false => pure false
    | .Or, true => pure true
    | _, _ => allTrue .Or es F.env)) rfl (W.bind (W.weak h fun b st1 h1 => ?_))
  cases b with
  | true => exact W.pure (h1.1 rfl)
  | false => exact h1.2 rfl

theorem WE.and1 {e : Expr} {pos : Pos} {Q : VQ} (h : WE X F e Q E lo ce mh) : WE X F (.BoolOp .And [e] pos) Q E lo ce mh := h
theorem WE.and {e e' : Expr} {es : List Expr} {pos : Pos} {Q : VQ} (h : WE X F e (fun v l1 c1 m1 => TruV X F v (fun b l2 c2 m2 => (b = true → WE X F (.BoolOp .And (e' :: es) pos) Q E l2 c2 m2) ∧ (b = false → Q v l2 c2 m2)) E l1 c1 m1) E lo ce mh) : WE X F (.BoolOp .And (e :: e' :: es) pos) Q E lo ce mh := by
  refine W.of_eq (u := (do
    let v ← eval e F.env
    standAt pos
    let c ← holding [v] (truthy v)
    match BoolOp.And, c with
    | .And, false | .Or, true => pure v
    | _, _ => eval (.BoolOp .And (e' :: es) pos) F.env)) rfl (W.bind (W.weak h fun a st1 h1 => W.bind (W.standAt (W.bind (W.holding (W.weak (h1 a rfl) fun b st2 h2 => ?_))))))
  cases b with
  | true => exact h2.1 rfl
  | false => exact W.pure (h2.2 rfl)

theorem WL.nil {pos : Pos} {Q : LQ} (h : Q [] lo ce mh) : WL X F [] pos Q E lo ce mh := W.pure (a := []) h
theorem WL.cons {e : Expr} {es : List Expr} {pos : Pos} {Q : LQ} (h : WE X F e (fun v l1 c1 m1 => WL X F es pos (fun vs l2 c2 m2 => Q (v :: vs) l2 c2 m2) E l1 c1 m1) E lo ce mh)
    (he : starEach (e :: es) F.env = (false, eval e F.env) :: starEach es F.env := by rfl) : WL X F (e :: es) pos Q E lo ce mh := by
  unfold WL
  rw [he]
  refine W.of_eq (u := (do
    let v ← eval e F.env
    let here ← (Pure.pure [v] : Sem (List Value))
    return here ++ (← holding here (spliced (backTo pos (starEach es F.env)))))) (by rfl) (W.bind (W.weak h fun a st1 h1 => W.bind (W.pure (W.bind (W.holding (W.weak h1 fun vs st2 h2 => W.pure ?_))))))
  simpa using h2

theorem WB.nil {Q : FQ} (h : Q .next lo ce mh) : WB X F [] Q E lo ce mh := W.pure (a := Flow.next) h
theorem WB.cons {s : Stmt} {ss : List Stmt} {Q : FQ} (h : WS X F s (fun f l1 c1 m1 => match f with | .next => WB X F ss Q E l1 c1 m1 | f => Q f l1 c1 m1) E lo ce mh) : WB X F (s :: ss) Q E lo ce mh := by
  refine W.of_eq (execs_cons ..) (W.bind (W.weak h fun f st1 h1 => ?_))
  cases f with
  | next => exact h1
  | brk => exact W.pure h1
  | cont => exact W.pure h1
  | ret v => exact W.pure h1
theorem WS.ret {e : Expr} {pos : Pos} {Q : FQ} (h : WE X F e (fun v l1 c1 m1 => Q (.ret v) l1 c1 m1) E lo ce mh) : WS X F (.Return (some e) pos) Q E lo ce mh :=
  W.of_eq (exec_Return_some ..) (W.bind (W.standAt (W.bind (W.weak h fun a st1 h1 => W.pure h1))))
theorem WS.if {t : Expr} {b o : List Stmt} {pos : Pos} {Q : FQ} (h : WT X F t (fun c l1 c1 m1 => (c = true → WB X F b Q E l1 c1 m1) ∧ (c = false → WB X F o Q E l1 c1 m1)) E lo ce mh) : WS X F (.If t b o pos) Q E lo ce mh := by
  refine W.of_eq (exec_If ..) (W.bind (W.standAt (W.bind (W.weak h fun c st1 h1 => ?_))))
  cases c with
  | true => exact h1.1 rfl
  | false => exact h1.2 rfl
theorem WS.assign {x : Str} {p pos : Pos} {e : Expr} {Q : FQ} (h : WE X F e (fun v l1 c1 m1 => StoV X F x v (fun l2 c2 m2 => Q .next l2 c2 m2) E l1 c1 m1) E lo ce mh) (hs : swapsWith e (some (.Name x p)) pos.line F.env = pure false := by rfl) :
    WS X F (.Assign [.Name x p] e pos) Q E lo ce mh :=
  W.of_eq (exec_Assign_Name F.env x p e pos hs) (W.bind (W.standAt (W.bind (W.weak h fun a st1 h1 => W.bind (W.standAt (W.bind (W.bindName (W.weak (h1 a rfl) fun _ st2 h2 => W.pure h2))))))))
theorem StoV.local {x : Str} {v : Val} {lo' : Loc} {Q : SQ} (ok : Ok F sc n) (hp : Put lo x v lo') (h : Q lo' ce mh) : StoV X F x v Q E lo ce mh := fun a ha => W.store_local ok.he (ha ▸ hp) h
theorem StoV.cell {x : Str} {v : Val} {ce' : Loc} {c : Addr} {Q : SQ} (ok : Ok F sc n) (hp : Put ce x v ce') (hc : F.B.cs.lookup x = some c) (hx : c ∈ F.B.ex) (h : Q lo ce' mh) : StoV X F x v Q E lo ce mh :=
  fun a ha => W.store_cell ok.he (ha ▸ hp) hc hx h
theorem AssV.name {x : Str} {p : Pos} {v : Val} {Q : SQ} (h : StoV X F x v Q E lo ce mh) : AssV X F (.Name x p) v Q E lo ce mh := fun a ha => W.bind (W.standAt (W.bindName (h a ha)))

-- ints
theorem BinV.add {x y : Int} {Q : VQ} (h : Q (.int (x + y)) lo ce mh) : BinV X F .Add (.int x) (.int y) Q E lo ce mh := fun a b ha hb s r => by
  obtain ⟨t, rfl⟩ := er_int ha; obtain ⟨u, rfl⟩ := er_int hb; exact PyProof.Rows.add_int (.here r h)
theorem BinV.sub {x y : Int} {Q : VQ} (h : Q (.int (x - y)) lo ce mh) : BinV X F .Sub (.int x) (.int y) Q E lo ce mh := fun a b ha hb s r => by
  obtain ⟨t, rfl⟩ := er_int ha; obtain ⟨u, rfl⟩ := er_int hb; exact PyProof.Rows.sub_int (.here r h)
theorem BinV.mul {x y : Int} {Q : VQ} (hm : IntMulOk x y) (h : Q (.int (x * y)) lo ce mh) : BinV X F .Mult (.int x) (.int y) Q E lo ce mh := fun a b ha hb s r => by
  obtain ⟨t, rfl⟩ := er_int ha; obtain ⟨u, rfl⟩ := er_int hb; exact PyProof.Rows.mul_int (hm := hm) (.here r h)
theorem BinV.mod {x y : Int} {Q : VQ} (hy : 0 < y) (h : Q (.int (x % y)) lo ce mh) : BinV X F .Mod (.int x) (.int y) Q E lo ce mh := fun a b ha hb s r => by
  obtain ⟨t, rfl⟩ := er_int ha; obtain ⟨u, rfl⟩ := er_int hb
  exact PyProof.Rows.mod_int' (by omega) (.here r (by show Q (.int (x.fmod y)) lo ce mh; rw [Int.fmod_eq_emod_of_nonneg _ (by omega)]; exact h))
theorem BinV.div {x y : Int} {Q : VQ} (hy : 0 < y) (hy2 : y < 1073741824) (h : Q (.int (x / y)) lo ce mh) : BinV X F .FloorDiv (.int x) (.int y) Q E lo ce mh := fun a b ha hb s r => by
  obtain ⟨t, rfl⟩ := er_int ha; obtain ⟨u, rfl⟩ := er_int hb
  exact PyProof.Rows.floordiv_int (by omega) (.here r (by show Q (.int (x.fdiv y)) lo ce mh; rw [Int.fdiv_eq_ediv_of_nonneg _ (by omega)]; exact h)) (Or.inl (PyProof.noPylong_small (by omega)))
theorem BinV.pow {x : Int} {n : Nat} {Q : VQ} (hn : n ≤ 1000000) (hx : x.natAbs < 2 ^ 64) (h : Q (.int (x ^ n)) lo ce mh) : BinV X F .Pow (.int x) (.int (n : Int)) Q E lo ce mh := fun a b ha hb s r => by
  obtain ⟨t, rfl⟩ := er_int ha; obtain ⟨u, rfl⟩ := er_int hb
  exact PyProof.Rows.pow_int_small (by omega) (by omega) hx (.here r (by show Q (.int (x ^ (n : Int).toNat)) lo ce mh; simpa using h))
theorem UnV.neg {x : Int} {Q : VQ} (h : Q (.int (-x)) lo ce mh) : UnV X F .USub (.int x) Q E lo ce mh := fun a ha s r => by
  obtain ⟨t, rfl⟩ := er_int ha; exact PyProof.Rows.neg_int (.here r h)
theorem UnV.not {v : Val} {Q : VQ} (h : TruV X F v (fun b l1 c1 m1 => Q (.bool (!b)) l1 c1 m1) E lo ce mh) : UnV X F .Not v Q E lo ce mh := fun a ha s r =>
  PyProof.Rows.not_of (wpAny_mono (h a ha s r) (fun c s' p => p) fun _ _ p => p)
theorem CmpV.lt {x y : Int} {Q : VQ} (h : Q (.bool (decide (x < y))) lo ce mh) : CmpV X F .Lt (.int x) (.int y) Q E lo ce mh := fun a b ha hb s r => by
  obtain ⟨t, rfl⟩ := er_int ha; obtain ⟨u, rfl⟩ := er_int hb; exact PyProof.Rows.lt_int (.here r h)
theorem CmpV.le {x y : Int} {Q : VQ} (h : Q (.bool (decide (x ≤ y))) lo ce mh) : CmpV X F .LtE (.int x) (.int y) Q E lo ce mh := fun a b ha hb s r => by
  obtain ⟨t, rfl⟩ := er_int ha; obtain ⟨u, rfl⟩ := er_int hb; exact PyProof.Rows.le_int (.here r h)
theorem CmpV.eq {x y : Int} {Q : VQ} (h : Q (.bool (decide (x = y))) lo ce mh) : CmpV X F .Eq (.int x) (.int y) Q E lo ce mh := fun a b ha hb s r => by
  obtain ⟨t, rfl⟩ := er_int ha; obtain ⟨u, rfl⟩ := er_int hb; exact PyProof.Rows.eq_int (.here r (by show Q (.bool (x == y)) lo ce mh; rw [show (x == y) = decide (x = y) from rfl]; exact h))
theorem CmpV.ne {x y : Int} {Q : VQ} (h : Q (.bool (decide (x ≠ y))) lo ce mh) : CmpV X F .NotEq (.int x) (.int y) Q E lo ce mh := fun a b ha hb s r => by
  obtain ⟨t, rfl⟩ := er_int ha; obtain ⟨u, rfl⟩ := er_int hb; exact PyProof.Rows.ne_int (.here r (by show Q (.bool (x != y)) lo ce mh; rw [show (x != y) = decide (x ≠ y) from by simp only [bne, decide_not]; rfl]; exact h))
theorem TruV.tbool {b : Bool} {Q : BQ} (h : Q b lo ce mh) : TruV X F (.bool b) Q E lo ce mh := fun a ha s r => by
  obtain rfl := er_bool ha; exact wpAny_truthy_bool (.here r h)
end
end Mine

namespace Mine
open PySem PySem.Calls PyProof.Rows PySem.W

theorem Room.deeper {A : Around} {n : Nat} {env : Env} (r : Room A (n + 1)) : Room (A.deeper env) n where
  hh := r.hh
  hd := by have := r.hd; show A.depth + 1 + n < _; omega
  hu := by have := r.hu; show A.units + 3 + 10 * n + 50 < _; omega
  hg := r.hg
  hf := let ⟨l, e⟩ := r.hf; ⟨env :: l, by show A.frames.map _ = _; rw [e]; rfl⟩
theorem Room.le {A : Around} {n m : Nat} (r : Room A n) (h : m ≤ n) : Room A m := ⟨r.hh, by have := r.hd; omega, by have := r.hu; omega, r.hg, r.hf⟩

def scOk (sc : Scope) : Bool := decide (sc.names.map (·.1)).Nodup && sc.names.all (fun p => !(p.1 == ("__debug__" : Str))) && (sc.kind == .function) && !sc.isCoroutine && !sc.isGenerator
def initLoc (sc : Scope) (params : List Str) (vs : List Val) : Loc := (sc.names.filter (·.2 == .local)).map fun p => (p.1, (params.zip vs).lookup p.1)
def initCel (sc : Scope) (params : List Str) (vs : List Val) : Loc := (sc.names.filter (·.2 == .cell)).map fun p => (p.1, (params.zip vs).lookup p.1)

theorem scOk_parts {sc : Scope} (h : scOk sc = true) : (sc.names.map (·.1)).Nodup ∧ (∀ p ∈ sc.names, (p.1 == ("__debug__" : Str)) = false) ∧ sc.kind = .function ∧ sc.isCoroutine = false ∧ sc.isGenerator = false := by
  unfold scOk at h
  rw [Bool.and_eq_true, Bool.and_eq_true, Bool.and_eq_true, Bool.and_eq_true] at h
  obtain ⟨⟨⟨⟨h1, h2⟩, h3⟩, h4⟩, h5⟩ := h
  refine ⟨of_decide_eq_true h1, fun p hp => ?_, eq_of_beq h3, by simpa using h4, by simpa using h5⟩
  have := List.all_eq_true.mp h2 p hp
  simpa using this

theorem cellsFrom_lookup {x : Str} : ∀ (names : List (Str × NameKind)) (n : Nat) (acc : List (Str × Addr)), (names.lookup x = some .cell ∧ (names.map (·.1)).Nodup) ∨ (x ∉ names.map (·.1) ∧ (acc.lookup x).isSome = true) → ∃ c, (cellsFrom n names acc).lookup x = some c
  | [], _, acc, h => by
    rcases h with ⟨h, _⟩ | ⟨_, h⟩
    · cases h
    · exact Option.isSome_iff_exists.mp h
  | (y, k) :: r, n, acc, h => by
    unfold cellsFrom
    rcases h with ⟨h, nd⟩ | ⟨h1, h2⟩
    · rw [List.map_cons, List.nodup_cons] at nd
      rw [List.lookup_cons] at h
      by_cases hxy : x = y
      · subst hxy
        have h : some k = some NameKind.cell := by simpa using h
        cases h
        simp only [beq_self_eq_true, if_true]
        exact cellsFrom_lookup r _ _ (.inr ⟨nd.1, by simp [List.lookup_cons]⟩)
      · have hb : (x == y) = false := beq_eq_false_iff_ne.mpr hxy
        rw [hb] at h
        split
        · exact cellsFrom_lookup r _ _ (.inl ⟨h, nd.2⟩)
        · exact cellsFrom_lookup r _ _ (.inl ⟨h, nd.2⟩)
    · simp only [List.map_cons, List.mem_cons, not_or] at h1
      have hb : (x == y) = false := beq_eq_false_iff_ne.mpr h1.1
      split
      · exact cellsFrom_lookup r _ _ (.inr ⟨h1.2, by rw [List.lookup_cons, hb]; exact h2⟩)
      · exact cellsFrom_lookup r _ _ (.inr ⟨h1.2, h2⟩)

theorem bindL_er (k : Str → Option NameKind) (x : Str) : ∀ (ns : List Str) (raws : List Value) (m : Str → Option Value), k x = some .local → ns.Nodup →
    (bindL k (ns.zip raws) m x).map er = ((ns.zip (raws.map er)).lookup x).or ((m x).map er)
  | [], _, m, _, _ => by simp [bindL]
  | n :: ns, [], m, _, _ => by simp [bindL]
  | n :: ns, a :: raws, m, hx, nd => by
    rw [List.nodup_cons] at nd
    simp only [List.zip_cons_cons, List.map_cons, bindL, List.lookup_cons]
    rw [bindL_er k x ns raws _ hx nd.2]
    by_cases hxn : x = n
    · subst hxn
      have hno : (ns.zip (raws.map er)).lookup x = none := by
        cases hl : (ns.zip (raws.map er)).lookup x with
        | none => rfl
        | some v => exact absurd (List.of_mem_zip (mem_of_lookup hl)).1 nd.1
      simp [hx, hno]
    · have hb : (x == n) = false := beq_eq_false_iff_ne.mpr hxn
      simp only [hb]
      split <;> simp [hxn]
theorem bindC_er (k : Str → Option NameKind) (x : Str) : ∀ (ns : List Str) (raws : List Value) (m : Str → Option Value), k x = some .cell → ns.Nodup →
    (bindC k (ns.zip raws) m x).map er = ((ns.zip (raws.map er)).lookup x).or ((m x).map er)
  | [], _, m, _, _ => by simp [bindC]
  | n :: ns, [], m, _, _ => by simp [bindC]
  | n :: ns, a :: raws, m, hx, nd => by
    rw [List.nodup_cons] at nd
    simp only [List.zip_cons_cons, List.map_cons, bindC, List.lookup_cons]
    rw [bindC_er k x ns raws _ hx nd.2]
    by_cases hxn : x = n
    · subst hxn
      have hno : (ns.zip (raws.map er)).lookup x = none := by
        cases hl : (ns.zip (raws.map er)).lookup x with
        | none => rfl
        | some v => exact absurd (List.of_mem_zip (mem_of_lookup hl)).1 nd.1
      simp [hx, hno]
    · have hb : (x == n) = false := beq_eq_false_iff_ne.mpr hxn
      simp only [hb]
      split <;> simp [hxn]

abbrev fnEnv (fd : FuncData) (L f : Addr) : Env := newEnv fd.scope L fd.globals (cellsFrom (L + 1) fd.scope.names []) (fd.qualname ++ ".<locals>.") (some f) fd.code none fd.builtins
abbrev fnBlk (fd : FuncData) (L : Addr) : Blk := ⟨fd.scope, L, cellsFrom (L + 1) fd.scope.names [], L :: (cellsFrom (L + 1) fd.scope.names []).map (·.2)⟩
def retOf : Fl → Val
  | .ret v => v
  | _ => .none

/-- a def of the text, at its address -/
structure FnAt (H0 : Heap) (f : Addr) (fd : FuncData) (body : List Stmt) (params : List Str) : Prop where
  obj : ∃ o, H0.get? f = some o ∧ o.data = .func fd
  body : fd.body = .stmts body
  code : H0.CodeRec fd.code fd.qualname
  lim : H0.NoLimit
  glob : fd.globals = mainGlobals ∧ fd.builtins = builtinsNs ∧ fd.closure = []
  sc : scOk fd.scope = true
  pnd : params.Nodup
  kinds : ∀ x ∈ params, fd.scope.names.lookup x = some .local ∨ fd.scope.names.lookup x = some .cell
  bind : ∀ raws : List Value, raws.length = params.length → bindArgs fd ⟨raws, []⟩ = pure (params.zip raws)

/-- the new frame's state -/
theorem Rep.enter {H0 : Heap} {s s' : Shared} {fd : FuncData} {f : Addr} {body : List Stmt} {params : List Str} {raws : List Value} (D : FnAt H0 f fd body params) {mh : MH} (rbase : ∀ b o, H0.get? b = some o → s.heap.get? b = some o) (robjs : ∀ a mo, mh a = some mo → ORel s.heap a mo ∧ H0.get? a = none)
    (x : InCallC s s.heap.objs.size (bindL (fun y => fd.scope.names.lookup y) (params.zip raws) fun _ => none) (cellsFrom (s.heap.objs.size + 1) fd.scope.names []) (bindC (fun y => fd.scope.names.lookup y) (params.zip raws) fun _ => none) s') :
    Rep H0 (fnBlk fd s.heap.objs.size) ⟨initLoc fd.scope params (raws.map er), initCel fd.scope params (raws.map er), mh⟩ s'.heap := by
  obtain ⟨nd, hdb, _⟩ := scOk_parts D.sc
  have lk : ∀ p ∈ fd.scope.names, fd.scope.names.lookup p.1 = some p.2 := lookup_of_nodup nd
  have keep := x.toInCall.keep
  have mhne : ∀ b, s.heap.objs.size ≤ b → mh b = none := fun b hb => by
    cases e : mh b with
    | none => rfl
    | some mo => obtain ⟨o, ho⟩ := (robjs b mo e).1.live; exact absurd (Nat.lt_of_lt_of_le (Heap.lt_size ho) hb) (Nat.lt_irrefl _)
  have h0ne : ∀ b, s.heap.objs.size ≤ b → H0.get? b = none := fun b hb => by
    cases e : H0.get? b with
    | none => rfl
    | some o => exact absurd (Nat.lt_of_lt_of_le (Heap.lt_size (rbase b o e)) hb) (Nat.lt_irrefl _)
  refine { base := fun b o e => keep b o (rbase b o e), ns := ⟨_, x.toInCall.ns, ?_⟩, kinds := ?_, nodup := ?_, cells := ?_, ckinds := ?_, cnodup := ?_, capart := fun y z c e1 e2 _ => name_of_addr x.apart (mem_of_lookup e1) (mem_of_lookup e2), clive := ?_, objs := fun a mo e => ⟨(robjs a mo e).1.keep (keep a), (robjs a mo e).2⟩, own := ?_, exL := List.mem_cons_self }
  · intro p hp
    simp only [initLoc, List.mem_map, List.mem_filter] at hp
    obtain ⟨q, ⟨hq, hk⟩, rfl⟩ := hp
    have hk' : fd.scope.names.lookup q.1 = some .local := by rw [lk q hq]; simpa using hk
    rw [bindL_er _ _ _ _ _ hk' D.pnd]; simp
  · intro p hp
    simp only [initLoc, List.mem_map, List.mem_filter] at hp
    obtain ⟨q, ⟨hq, hk⟩, rfl⟩ := hp
    exact ⟨by show fd.scope.names.lookup q.1 = _; rw [lk q hq]; simpa using hk, hdb q hq⟩
  · simp only [initLoc, List.map_map]
    exact (List.Sublist.map (fun p : Str × NameKind => p.1) (List.filter_sublist (p := fun p : Str × NameKind => p.2 == .local) (l := fd.scope.names))).nodup nd
  · intro p hp
    simp only [initCel, List.mem_map, List.mem_filter] at hp
    obtain ⟨q, ⟨hq, hk⟩, rfl⟩ := hp
    have hk' : fd.scope.names.lookup q.1 = some .cell := by rw [lk q hq]; simpa using hk
    obtain ⟨c, hc⟩ := cellsFrom_lookup fd.scope.names (s.heap.objs.size + 1) [] (.inl ⟨hk', nd⟩)
    have hab := x.above q.1 c (mem_of_lookup hc)
    refine ⟨c, _, hc, x.cell _ _ hc, ?_, mhne c (Nat.le_of_lt hab), Nat.ne_of_gt hab, h0ne c (Nat.le_of_lt hab)⟩
    rw [bindC_er _ _ _ _ _ hk' D.pnd]; simp
  · intro p hp
    simp only [initCel, List.mem_map, List.mem_filter] at hp
    obtain ⟨q, ⟨hq, hk⟩, rfl⟩ := hp
    exact ⟨by show fd.scope.names.lookup q.1 = _; rw [lk q hq]; simpa using hk, hdb q hq⟩
  · simp only [initCel, List.map_map]
    exact (List.Sublist.map (fun p : Str × NameKind => p.1) (List.filter_sublist (p := fun p : Str × NameKind => p.2 == .cell) (l := fd.scope.names))).nodup nd
  · intro y c e
    obtain ⟨o, ho, _⟩ := x.cell y c e
    exact ⟨mhne c (Nat.le_of_lt (x.above y c (mem_of_lookup e))), o, ho⟩
  · intro b hb
    rcases List.mem_cons.mp hb with rfl | hb
    · obtain ⟨o, _, _, e, _⟩ := x.toInCall.ns
      exact ⟨mhne _ (Nat.le_refl _), h0ne _ (Nat.le_refl _), o, e⟩
    · obtain ⟨q, hq, rfl⟩ := List.mem_map.mp hb
      have hab := x.above q.1 q.2 hq
      have hnm : (cellsFrom (s.heap.objs.size + 1) fd.scope.names []).lookup q.1 = some q.2 := by
        obtain ⟨c, hc⟩ : ∃ c, (cellsFrom (s.heap.objs.size + 1) fd.scope.names []).lookup q.1 = some c := by
          cases h : (cellsFrom (s.heap.objs.size + 1) fd.scope.names []).lookup q.1 with
          | some c => exact ⟨c, rfl⟩
          | none => exact absurd (List.lookup_eq_none_iff.mp h q hq) (by simp)
        have nd2 : ((cellsFrom (s.heap.objs.size + 1) fd.scope.names []).map (·.1)).Nodup := by
          have : ∀ (names : List (Str × NameKind)) (n : Nat) (acc : List (Str × Addr)), (names.map (·.1)).Nodup → (acc.map (·.1)).Nodup → (∀ y ∈ names.map (·.1), y ∉ acc.map (·.1)) → ((cellsFrom n names acc).map (·.1)).Nodup := by
            intro names
            induction names with
            | nil => intro n acc _ h _; exact h
            | cons z zs ih =>
              intro n acc h1 h2 h3
              obtain ⟨y, k⟩ := z
              rw [List.map_cons, List.nodup_cons] at h1
              unfold cellsFrom
              split
              · refine ih _ _ h1.2 ?_ ?_
                · rw [List.map_cons, List.nodup_cons]; exact ⟨h3 _ (by simp), h2⟩
                · intro w hw hw'
                  rw [List.map_cons, List.mem_cons] at hw'
                  rcases hw' with rfl | hw'
                  · exact h1.1 hw
                  · exact h3 w (by rw [List.map_cons]; exact List.mem_cons_of_mem _ hw) hw'
              · exact ih _ _ h1.2 h2 fun w hw => h3 w (by rw [List.map_cons]; exact List.mem_cons_of_mem _ hw)
          exact this _ _ _ nd (by simp) (by simp)
        rw [hc]
        have := lookup_of_nodup nd2 q hq
        rw [hc] at this; exact this
      obtain ⟨o, ho, _⟩ := x.cell _ _ hnm
      exact ⟨mhne _ (Nat.le_of_lt hab), h0ne _ (Nat.le_of_lt hab), o, ho⟩

/-- back from a frame -/
theorem Rep.leave {H0 : Heap} {B : Blk} {st st' : St} {h h₁ h' : Heap} {fd : FuncData} {L : Addr} (r : Rep H0 B st h) (hL : h.objs.size ≤ L) (hcs : ∀ b ∈ (fnBlk fd L).ex, h.objs.size ≤ b) (keep : ∀ b o, h.get? b = some o → h₁.get? b = some o)
    (r' : Rep H0 (fnBlk fd L) st' h') (k : Kp (fnBlk fd L).ex st.mh st'.mh h₁ h') : Rep H0 B { st with mh := st'.mh } h' ∧ Kp B.ex st.mh st'.mh h h' := by
  have old : ∀ b o, h.get? b = some o → st.mh b = none → st'.mh b = none ∧ h'.get? b = some o := fun b o e n =>
    k.keep b o (keep b o e) n fun hb => Nat.lt_irrefl _ (Nat.lt_of_lt_of_le (Heap.lt_size e) (hcs b hb))
  refine ⟨{ r with base := r'.base, ns := ?_, cells := ?_, clive := ?_, objs := r'.objs, own := ?_ }, ⟨fun b o e n _ => old b o e n, k.dom⟩⟩
  · obtain ⟨m, ⟨o, es, ep, e, q⟩, hl⟩ := r.ns
    exact ⟨m, ⟨o, es, ep, (old _ o e (r.own _ r.exL).1).2, q⟩, hl⟩
  · intro p hp
    obtain ⟨c, v, x1, ⟨o, x2, x2'⟩, x3, x4, x5⟩ := r.cells p hp
    exact ⟨c, v, x1, ⟨o, (old c o x2 x4).2, x2'⟩, x3, (old c o x2 x4).1, x5⟩
  · intro y c e
    obtain ⟨n, o, ho⟩ := r.clive y c e
    exact ⟨(old c o ho n).1, o, (old c o ho n).2⟩
  · intro b hb
    obtain ⟨x, y, o, e⟩ := r.own b hb
    exact ⟨(old b o e x).1, y, o, (old b o e x).2⟩

section
variable {X : Cx} {F : Fx} {sc : Scope} {n : Nat} {E : EQ} {lo ce : Loc} {mh : MH}

/-- the cells of a frame, by name -/
structure CellsOk' (F : Fx) (sc : Scope) : Prop where
  cs : F.B.cs = cellsFrom (F.B.L + 1) sc.names []
  ex : F.B.ex = F.B.L :: F.B.cs.map (·.2)

/-- a call of a def of the text that does not raise -/
theorem CallV.fn {f : Addr} {fd : FuncData} {body : List Stmt} {params : List Str} {vs : List Val} {Q : VQ} (D : FnAt X.H0 f fd body params) (room : Room F.A (n + 1)) (hn : vs.length = params.length)
    (h : ∀ F', Ok F' fd.scope n → CellsOk' F' fd.scope → WB X F' body (fun fl _ _ m => Q (retOf fl) lo ce m) (fun _ _ => False) (initLoc fd.scope params vs) (initCel fd.scope params vs) mh) : CallV X F (.ref f) vs Q E lo ce mh := by
  intro a raws ha hr s r
  obtain rfl := er_ref ha
  subst hr
  obtain ⟨o, ho, hd⟩ := D.obj
  obtain ⟨g1, g2, g3⟩ := D.glob
  obtain ⟨nd, hdb, hk, hco, hgen⟩ := scOk_parts D.sc
  refine wpAny_call (codeAny_call_function (by have := room.hd; omega) (r.base _ _ ho) hd hco hgen D.body (D.code.keeps r.base) ?_)
  rw [D.bind raws (by simpa using hn)]
  refine wpAny_pure ?_
  rw [g3]
  refine wpAny_newFunctionEnv_cells hk (fun p hp => ?_) fun env he s' x => ?_
  · rcases D.kinds p.1 (List.of_mem_zip hp).1 with h1 | h1
    · exact .inl h1
    · obtain ⟨c, hc⟩ := cellsFrom_lookup fd.scope.names (s.heap.objs.size + 1) [] (.inl ⟨h1, nd⟩)
      exact .inr ⟨h1, by rw [hc]; rfl⟩
  · subst he
    have r1 := Rep.enter D r.base r.objs x
    refine ⟨(D.lim.keeps r.base).keeps x.toInCall.keep, codeAny_func ?_⟩
    obtain ⟨h₁, tk, rfl⟩ := x.toInCall.same
    obtain ⟨l, hl⟩ := room.hf
    have ok : Ok ⟨F.A.deeper (fnEnv fd s.heap.objs.size f), fnBlk fd s.heap.objs.size, fnEnv fd s.heap.objs.size f⟩ fd.scope n :=
      ⟨⟨rfl, rfl, rfl, g1, hk, g2⟩, rfl, room.deeper, ⟨fnEnv fd s.heap.objs.size f, l, by show F.A.frames.map _ = _; rw [hl]; rfl, hgen, hco, g2, g1⟩, nd⟩
    refine wpAny_mono (h _ ok ⟨rfl, rfl⟩ _ r1) (fun fl s2 p => ?_) fun e s2 p => by obtain ⟨_, _, _, _, _, _, f⟩ := p; exact f.elim
    obtain ⟨h', tk', st', rfl, r', k', q⟩ := p
    have hcs : ∀ b ∈ (fnBlk fd s.heap.objs.size).ex, s.heap.objs.size ≤ b := fun b hb => by
      rcases List.mem_cons.mp hb with rfl | hb
      · exact Nat.le_refl _
      · obtain ⟨q, hq, rfl⟩ := List.mem_map.mp hb
        have := x.above q.1 q.2 hq
        exact Nat.le_of_lt this
    obtain ⟨r2, k2⟩ := Rep.leave (h₁ := h₁) r (Nat.le_refl _) hcs x.toInCall.keep r' k'
    refine ⟨h', tk', _, rfl, r2, k2, ?_⟩
    cases fl <;> exact q

/-- what keeps a called thing -/
def KeepV (X : Cx) (f : Val) : Prop := ∀ v, er v = f → ∀ h : Heap, (∀ b o, X.H0.get? b = some o → h.get? b = some o) → ∃ k, (k = Keeper.frame ∨ k = Keeper.machine ∨ k = Keeper.boundFrame) ∧ Looks (model X.prog X.w) h (keeperOf v) k
theorem KeepV.builtin {X : Cx} {id : String} : KeepV X (.builtin id) := fun v hv h _ => by
  obtain rfl := er_builtin hv; exact ⟨.machine, .inr (.inl rfl), Looks.of_pure rfl⟩
theorem KeepV.type {X : Cx} {id : String} : KeepV X (.type id) := fun v hv h _ => by
  obtain rfl := er_type hv; exact ⟨.machine, .inr (.inl rfl), Looks.of_pure rfl⟩
theorem KeepV.fn {X : Cx} {f : Addr} {fd : FuncData} {body : List Stmt} {params : List Str} (D : FnAt X.H0 f fd body params) : KeepV X (.ref f) := fun v hv h k => by
  obtain rfl := er_ref hv
  obtain ⟨o, ho, hd⟩ := D.obj
  refine ⟨.frame, .inl rfl, fun A Q E s k' q => ?_⟩
  show wpAny _ _ (load f >>= _) _ _ _
  refine wpAny_bind (wpAny_load (k' _ _ (k _ _ ho)) ?_)
  rw [hd]
  exact wpAny_pure q

theorem W.cw {st : St} {pos : Pos} {a : Value} {first : List Value} {e : Expr} {args : List Expr} {Q : Value → St → Prop} (hk : KeepV X (er a))
    (h : W X F.A F.B (spliced (backTo pos (starEach (e :: args) F.env))) (fun us st2 => ∀ as, as.map er = us.map er → W X F.A F.B (PySem.call a (first ++ as)) Q E st2) E st)
    (he : starEach (e :: args) F.env = (false, eval e F.env) :: starEach args F.env) (hplain : (backTo pos (starEach args F.env)).any (·.1) = false) :
    W X F.A F.B (callWith pos a first (backTo pos (starEach (e :: args) F.env)) []) Q E st := fun s r => by
  refine callWith_of (P := fun h => ∀ b o, X.H0.get? b = some o → h.get? b = some o) (by rw [he]; show ((false || (backTo pos (starEach args F.env)).any (·.1)) || false) = false; rw [hplain]; rfl) (hk a rfl) ?_
  rw [he] at h ⊢
  refine evalArgs_plain (wpAny_mono (h s r) (fun vs s1 p => ?_) fun _ _ p => p)
  obtain ⟨h', tk, st', rfl, r', k, q⟩ := p
  exact ⟨r'.base, (q vs rfl).from r' k⟩

theorem WE.call {func e : Expr} {args : List Expr} {pos : Pos} {Q : VQ}
    (h : WE X F func (fun f l1 c1 m1 => KeepV X f ∧ WL X F (e :: args) pos (fun vs l2 c2 m2 => CallV X F f vs Q E l2 c2 m2) E l1 c1 m1) E lo ce mh)
    (hc : eval (.Call func (e :: args) [] pos) F.env = (do callWith pos (← eval func F.env) [] (backTo pos (starEach (e :: args) F.env)) (backToKw pos (keywordEach [] F.env))) := by rfl)
    (he : starEach (e :: args) F.env = (false, eval e F.env) :: starEach args F.env := by rfl) (hplain : (backTo pos (starEach args F.env)).any (·.1) = false := by rfl) : WE X F (.Call func (e :: args) [] pos) Q E lo ce mh :=
  W.of_eq hc (W.bind (W.weak h fun a st1 h1 => W.cw (first := []) h1.1 (W.weak h1.2 fun us st2 h2 as has => h2 a as rfl has) he hplain))

theorem WE.meth {o e : Expr} {name : Str} {args : List Expr} {apos pos : Pos} {pl : Sem Bool} {Q : VQ}
    (h : WE X F o (fun v l1 c1 m1 => MethV X F v name (fun f first l2 c2 m2 => KeepV X f ∧ WL X F (e :: args) pos (fun vs l3 c3 m3 => CallV X F f (first ++ vs) Q E l3 c3 m3) E l2 c2 m2) E l1 c1 m1) E lo ce mh)
    (hc : eval (.Call (.Attribute o name apos) (e :: args) [] pos) F.env = (do
      let ov ← eval o F.env
      standAt apos.atName
      let (f, first) ← holding [ov] (getMethod ov name pl)
      callWith pos f first (backTo pos (starEach (e :: args) F.env)) []) := by rfl)
    (he : starEach (e :: args) F.env = (false, eval e F.env) :: starEach args F.env := by rfl) (hplain : (backTo pos (starEach args F.env)).any (·.1) = false := by rfl) : WE X F (.Call (.Attribute o name apos) (e :: args) [] pos) Q E lo ce mh :=
  W.of_eq hc (W.bind (W.weak h fun a st1 h1 => W.bind (W.standAt (W.bind (W.holding (W.weak (h1 a pl rfl) fun fx st2 h2 => W.cw (first := fx.2) h2.1 (W.weak h2.2 fun us st3 h3 as has => h3 fx.1 (fx.2 ++ as) rfl (by rw [List.map_append, has])) he hplain))))))

theorem Heap.fresh_none (h : Heap) : h.get? h.objs.size = none := by
  cases e : h.get? h.objs.size with
  | none => rfl
  | some o => exact absurd (Heap.lt_size e) (Nat.lt_irrefl _)
theorem WV.newList {us : List Value} {Q : VQ} (hz : us.length ≤ sizeLine) (h : ∀ a, mh a = none → X.H0.get? a = none → Q (.ref a) lo ce (mh.set a (.list (us.map er)))) : WV X F (newList us) Q E lo ce mh := fun s r =>
  wpAny_newObj_type ⟨_, _, _, rfl, r.alloc (fun b o e => Heap.get?_push_of_some _ e) (a := s.heap.objs.size) (mo := .list (us.map er)) (Heap.fresh_none _) ⟨us.toArray, ⟨0, Heap.get?_push_size _ rfl⟩, by simp, by simpa using hz⟩, .alloc (fun b o e => Heap.get?_push_of_some _ e) _ (Heap.fresh_none _), h _ r.fresh r.freshH0⟩ (by show us.toArray.size ≤ sizeLine; simpa using hz)
theorem WV.newTuple {us : List Value} {Q : VQ} (hz : us.length ≤ sizeLine) (h : ∀ a, mh a = none → X.H0.get? a = none → Q (.ref a) lo ce (mh.set a (.tup (us.map er)))) : WV X F (newTuple us) Q E lo ce mh := fun s r =>
  wpAny_newObj_type ⟨_, _, _, rfl, r.alloc (fun b o e => Heap.get?_push_of_some _ e) (a := s.heap.objs.size) (mo := .tup (us.map er)) (Heap.fresh_none _) ⟨us.toArray, 0, Heap.get?_push_size _ rfl, by simp, by simpa using hz⟩, .alloc (fun b o e => Heap.get?_push_of_some _ e) _ (Heap.fresh_none _), h _ r.fresh r.freshH0⟩ (by show us.toArray.size ≤ sizeLine; simpa using hz)
theorem WE.list {es : List Expr} {pos : Pos} {Q : VQ} (h : WL X F es pos (fun vs l1 c1 m1 => vs.length ≤ sizeLine ∧ ∀ a, m1 a = none → X.H0.get? a = none → Q (.ref a) l1 c1 (m1.set a (.list vs))) E lo ce mh) : WE X F (.List es pos) Q E lo ce mh :=
  W.of_eq (u := do standAt pos; PySem.newList (← spliced (backTo pos (starEach es F.env)))) rfl (W.bind (W.standAt (W.bind (W.weak h fun us st1 h1 => WV.newList (by simpa using h1.1) h1.2))))
theorem WE.tuple {es : List Expr} {k : Nat} {pos : Pos} {Q : VQ} (h : WL X F es pos (fun vs l1 c1 m1 => vs.length ≤ sizeLine ∧ ∀ a, m1 a = none → X.H0.get? a = none → Q (.ref a) l1 c1 (m1.set a (.tup vs))) E lo ce mh) : WE X F (.Tuple es k pos) Q E lo ce mh :=
  W.of_eq (u := do standAt pos; PySem.newTuple (← spliced (backTo pos (starEach es F.env)))) rfl (W.bind (W.standAt (W.bind (W.weak h fun us st1 h1 => WV.newTuple (by simpa using h1.1) h1.2))))
end
end Mine

namespace Mine
open PySem PySem.Calls PyProof.Rows PySem.W

/-- a list of the call's own, or one that stood before it -/
def LstAt (X : Cx) (mh : MH) (a : Addr) (xs : List Val) : Prop := mh a = some (.list xs) ∨ (∃ items, X.H0.IsList a items ∧ items.toList.map er = xs ∧ xs.length ≤ sizeLine)
theorem LstAt.get {X : Cx} {B : Blk} {st : St} {h : Heap} {a : Addr} {xs : List Val} (l : LstAt X st.mh a xs) (r : Rep X.H0 B st h) : ∃ items, h.IsList a items ∧ items.toList.map er = xs ∧ xs.length ≤ sizeLine := by
  rcases l with l | ⟨items, ⟨o, ho, q⟩, e, z⟩
  · obtain ⟨⟨items, p, e, z⟩, _⟩ := r.objs a _ l
    exact ⟨items, p.isList, e, z⟩
  · exact ⟨items, ⟨o, r.base _ _ ho, q⟩, e, z⟩
theorem LstAt.own {X : Cx} {mh : MH} {a : Addr} {xs : List Val} (h : mh a = some (.list xs)) : LstAt X mh a xs := .inl h
theorem Rep.tup {X : Cx} {B : Blk} {st : St} {h : Heap} {a : Addr} {xs : List Val} (r : Rep X.H0 B st h) (e : st.mh a = some (.tup xs)) : ∃ items, h.IsTuple a items ∧ items.toList.map er = xs ∧ xs.length ≤ sizeLine := by
  obtain ⟨⟨items, n, p, e, z⟩, _⟩ := r.objs a _ e
  exact ⟨items, ⟨_, p, rfl, n, rfl⟩, e, z⟩

/-- what an iterator hands out -/
inductive Yd where
  | val (v : Val)
  | tup (vs : List Val)
def YRel (h h' : Heap) : Yd → Value → Prop
  | .val x, v => er v = x
  | .tup xs, v => ∃ T, v = .ref T ∧ h.get? T = none ∧ ORel h' T (.tup xs)
def YTgt : Yd → Expr → Prop
  | .val _, _ => True
  | .tup _, t => ∃ es k p, t = .Tuple es k p

structure Itr (X : Cx) (A : Around) (I : Addr) (own : List Addr) (src : MH → Prop) (ys : List Yd) (At : Nat → Heap → Prop) : Prop where
  frame : ∀ i h h', At i h → (∀ b ∈ own, ∀ o, h.get? b = some o → h'.get? b = some o) → At i h'
  live : ∀ i h, At i h → ∀ b ∈ own, ∃ o, h.get? b = some o
  step : ∀ i y (target : Expr) (s : Shared) (B : Blk) (st : St) (Q : Value → Shared → Prop) (E : Value → Shared → Prop), Rep X.H0 B st s.heap → src st.mh → (∀ b ∈ own, st.mh b = none ∧ X.H0.get? b = none) → At i s.heap → ys[i]? = some y → YTgt y target →
    (∀ v h' tk, YRel s.heap h' y v → At (i + 1) h' → (∀ b o, b ∉ own → s.heap.get? b = some o → h'.get? b = some o) → Q v { s with heap := h', toks := tk }) →
    wpAny (model X.prog X.w) A (pyNext (.ref I)) (fun r s₁ => match r with | none => False | some v => wpAny (model X.prog X.w) A (letOwnedTupleGo target (.ref I) v) (fun _ s₂ => Q v s₂) E s₁) E s
  done : ∀ (s : Shared) (B : Blk) (st : St) (Q : Option Value → Shared → Prop) (E : Value → Shared → Prop), Rep X.H0 B st s.heap → src st.mh → (∀ b ∈ own, st.mh b = none ∧ X.H0.get? b = none) → At ys.length s.heap →
    (∀ h' tk, (∀ b o, b ∉ own → s.heap.get? b = some o → h'.get? b = some o) → Q none { s with heap := h', toks := tk }) → wpAny (model X.prog X.w) A (pyNext (.ref I)) Q E s
  self : ∀ i (s : Shared) (Q : Value → Shared → Prop) (E : Value → Shared → Prop), At i s.heap → Q (.ref I) s → wpAny (model X.prog X.w) A (pyIter (.ref I)) Q E s

theorem letOwned_val {M : Model} {A : Around} {E : Value → Shared → Prop} {s : Shared} {target : Expr} {I : Addr} {v : Value} {o : Obj} {n : String} {Q : Unit → Shared → Prop} (ho : s.heap.get? I = some o) (hc : o.cls = .type n)
    (hn : (["enumerate", "zip", "dict_itemiterator", "dict_reverseitemiterator", "odict_iterator", "itertools.zip_longest", "itertools.pairwise"] : List String).contains n = false) (h : Q () s) : wpAny M A (letOwnedTupleGo target (.ref I) v) Q E s := by
  unfold letOwnedTupleGo
  split
  all_goals first
    | exact wpAny_pure h
    | (cases v <;> first
        | exact wpAny_pure h
        | (refine wpAny_bind (wpAny_load ho ?_)
           rw [hc]
           split
           · rename_i n' vs' e1 e2
             cases e1
             rw [hn]
             exact wpAny_pure h
           · exact wpAny_pure h))

theorem map_er_get {items : Array Value} {xs : List Val} (e : items.toList.map er = xs) {i : Nat} {x : Val} (h : xs[i]? = some x) : ∃ v, items[i]? = some v ∧ er v = x := by
  subst e
  rw [List.getElem?_map] at h
  cases q : items.toList[i]? with
  | none => rw [q] at h; cases h
  | some v => rw [q] at h; exact ⟨v, by simpa using q, by simpa using h⟩
theorem map_er_len {items : Array Value} {xs : List Val} (e : items.toList.map er = xs) : items.size = xs.length := by subst e; simp

theorem Itr.list {X : Cx} {A : Around} (hh : A.handled = none) {I l : Addr} {xs : List Val} :
    Itr X A I [I] (fun mh => LstAt X mh l xs) (xs.map .val) (fun i h => h.IsListIter I l i ∧ (∀ o, h.get? l = some o → True) ∧ l ≠ I) where
  frame := fun i h h' st k => ⟨st.1.at fun o e => k I (by simp) o e, fun _ _ => trivial, st.2.2⟩
  live := fun i h st b hb => by obtain rfl := List.mem_singleton.mp hb; obtain ⟨o, ho, _⟩ := st.1; exact ⟨o, ho⟩
  step := fun i y target s B st Q E r src own at_ hy _ hQ => by
    rw [List.getElem?_map] at hy
    cases hx : xs[i]? with
    | none => rw [hx] at hy; cases hy
    | some x =>
      rw [hx] at hy
      cases hy
      obtain ⟨items, hl, e, z⟩ := src.get r
      obtain ⟨v, hv, ev⟩ := map_er_get e hx
      refine wpAny_pyNext_list_item at_.1 hl hv fun h' hit' hs' => ?_
      obtain ⟨o, ho, hc, _⟩ := id hit'
      refine letOwned_val ho hc (by decide) (hQ v h' s.toks ev ⟨hit', fun _ _ => trivial, at_.2.2⟩ fun b o hb e => hs'.extBut b o (fun q => hb (by simp [q])) e)
  done := fun s B st Q E r src own at_ hQ => by
    obtain ⟨items, hl, e, z⟩ := src.get r
    refine wpAny_pyNext_list_end hh at_.1 hl (by rw [List.length_map, ← map_er_len e]; simp) fun h' he' => hQ h' s.toks fun b o hb e => he' b o (fun q => hb (by simp [q])) e
  self := fun i s Q E at_ q => wpAny_pyIter_listiter at_.1 q


def rangeYs (a c : Int) (n : Nat) : List Yd := (List.range n).map fun (i : Nat) => .val (.int (a + (i : Int) * c))
theorem rangeYs_get {a c : Int} {n i : Nat} {y : Yd} : (rangeYs a c n)[i]? = some y ↔ i < n ∧ y = .val (.int (a + (i : Int) * c)) := by
  unfold rangeYs
  rw [List.getElem?_map]
  by_cases h : i < n
  · rw [List.getElem?_range h]; simp [h, eq_comm]
  · have : (List.range n)[i]? = none := by simp; omega
    rw [this]; simp [h]
theorem rangeYs_len {a c : Int} {n : Nat} : (rangeYs a c n).length = n := by simp [rangeYs]

theorem Itr.range {X : Cx} {A : Around} (hh : A.handled = none) {I : Addr} {a c : Int} {n : Nat} :
    Itr X A I [I] (fun _ => True) (rangeYs a c n) (fun i h => IsRangeIter h I (a + (i : Nat) * c) ((n : Int) - (i : Nat)) c) where
  frame := (Walks.range (prog := X.prog) (w := X.w) hh I a c n).frame
  live := fun i h st b hb => by obtain rfl := List.mem_singleton.mp hb; exact ⟨_, st⟩
  step := fun i y target s B st Q E r src own at_ hy _ hQ => by
    obtain ⟨hi, rfl⟩ := rangeYs_get.mp hy
    refine (Walks.range (prog := X.prog) (w := X.w) hh I a c n).item i s _ _ hi at_ fun v h' tk hv at' hk => ?_
    obtain ⟨t, rfl⟩ := hv
    exact letOwned_val at' rfl (by decide) (hQ _ h' tk rfl at' hk)
  done := fun s B st Q E r src own at_ hQ => by
    rw [rangeYs_len] at at_
    exact (Walks.range (prog := X.prog) (w := X.w) hh I a c n).done s Q E at_ fun h' tk hk => hQ h' tk hk
  self := (Walks.range (prog := X.prog) (w := X.w) hh I a c n).self

def enumYs (xs : List Val) : List Yd := xs.zipIdx.map fun p => .tup [.int (p.2 : Int), p.1]
theorem enumYs_get {xs : List Val} {i : Nat} {y : Yd} : (enumYs xs)[i]? = some y ↔ ∃ x, xs[i]? = some x ∧ y = .tup [.int (i : Int), x] := by
  unfold enumYs
  rw [List.getElem?_map, List.getElem?_zipIdx]
  cases h : xs[i]? with
  | none => simp
  | some x => simp [eq_comm]
theorem enumYs_len {xs : List Val} : (enumYs xs).length = xs.length := by simp [enumYs]

theorem Itr.enum {X : Cx} {A : Around} (hh : A.handled = none) {e it l : Addr} {xs : List Val} (hei : e ≠ it) :
    Itr X A e [e, it] (fun mh => LstAt X mh l xs) (enumYs xs) (fun i h => (∃ old, IsEnum h e it i old) ∧ h.IsListIter it l i ∧ l ≠ e ∧ l ≠ it) where
  frame := fun i h h' st k => by
    obtain ⟨⟨old, he⟩, hit, q⟩ := st
    exact ⟨⟨old, k e (by simp) _ he⟩, hit.at fun o x => k it (by simp) o x, q⟩
  live := fun i h st b hb => by
    obtain ⟨⟨old, he⟩, ⟨o, ho, _⟩, q⟩ := st
    simp only [List.mem_cons, List.not_mem_nil, or_false] at hb
    rcases hb with rfl | rfl
    · exact ⟨_, he⟩
    · exact ⟨_, ho⟩
  step := fun i y target s B st Q E r src own at_ hy ht hQ => by
    obtain ⟨x, hx, rfl⟩ := enumYs_get.mp hy
    obtain ⟨items, hl, eq, z⟩ := src.get r
    obtain ⟨v, hv, ev⟩ := map_er_get eq hx
    obtain ⟨he, hit, q1, q2⟩ := at_
    obtain ⟨es, k, p, rfl⟩ := ht
    obtain ⟨old, he⟩ := he
    refine wpAny_pyNext_enum_item he hit hl hv hei fun h' ho hit' hT hsz hk => ?_
    refine wpAny_letOwnedTupleGo_enum ho fun h'' he'' hs'' => ?_
    have neT : s.heap.objs.size ≠ e := Nat.ne_of_gt (Heap.lt_size he)
    refine hQ (.ref s.heap.objs.size) h'' _ ⟨_, rfl, Heap.fresh_none _, ⟨_, _, (hs''.2 _ neT).trans hT, by rw [show (#[Value.int (i : Int) s.toks, v] : Array Value).toList = [Value.int (i : Int) s.toks, v] from rfl, List.map_cons, List.map_cons, List.map_nil, ev]; rfl, by show 2 ≤ sizeLine; decide⟩⟩ ⟨⟨_, by simpa using he''⟩, hit'.at fun o y => (hs''.2 it hei.symm).trans y, q1, q2⟩ fun b o hb e' => ?_
    simp at hb
    exact (hs''.2 b hb.1).trans (hk b o hb.1 hb.2 e')
  done := fun s B st Q E r src own at_ hQ => by
    obtain ⟨items, hl, eq, z⟩ := src.get r
    obtain ⟨he, hit, q1, q2⟩ := at_
    have W := WalksT.enumerate (prog := X.prog) (w := X.w) hh e it l hei q1 q2 items
    rw [enumYs_len, ← map_er_len eq] at he hit
    exact W.done s Q E ⟨he, hit, hl⟩ fun h' tk hk => hQ h' tk hk
  self := fun i s Q E at_ q => by
    obtain ⟨⟨old, he⟩, _⟩ := at_
    exact wpAny_pyIter_enum he q

def zipYs (xs ys : List Val) : List Yd := (xs.zip ys).map fun p => .tup [p.1, p.2]
theorem zipYs_get {xs ys : List Val} {i : Nat} {y : Yd} : (zipYs xs ys)[i]? = some y ↔ ∃ a b, xs[i]? = some a ∧ ys[i]? = some b ∧ y = .tup [a, b] := by
  unfold zipYs
  rw [List.getElem?_map]
  cases h1 : xs[i]? with
  | none =>
    have : (xs.zip ys)[i]? = none := by
      rw [List.getElem?_eq_none_iff] at h1 ⊢
      rw [List.length_zip]; omega
    simp [this]
  | some a =>
    cases h2 : ys[i]? with
    | none =>
      have : (xs.zip ys)[i]? = none := by
        rw [List.getElem?_eq_none_iff] at h2 ⊢
        rw [List.length_zip]; omega
      simp [this]
    | some b =>
      have : (xs.zip ys)[i]? = some (a, b) := List.getElem?_zip_eq_some.mpr ⟨h1, h2⟩
      simp [this, eq_comm]
theorem zipYs_len {xs ys : List Val} : (zipYs xs ys).length = min xs.length ys.length := by simp [zipYs]

theorem Itr.zip {X : Cx} {A : Around} (hh : A.handled = none) {z TI TO i1 i2 l1 l2 : Addr} {xs ys : List Val} (D : ZipApart z TI TO i1 i2 l1 l2) :
    Itr X A z [z, TI, TO, i1, i2] (fun mh => LstAt X mh l1 xs ∧ LstAt X mh l2 ys) (zipYs xs ys) (fun i h => IsZip h z TI TO .none ∧ IsPair h TI (.ref i1) (.ref i2) ∧ (∃ a b, IsPair h TO a b) ∧ h.IsListIter i1 l1 i ∧ h.IsListIter i2 l2 i) where
  frame := fun i h h' st hk => by
    obtain ⟨hz, hTI, ⟨a, b, hTO⟩, h1, h2⟩ := st
    exact ⟨hk z (by simp) _ hz, hk TI (by simp) _ hTI, ⟨a, b, hk TO (by simp) _ hTO⟩, h1.at fun o e => hk i1 (by simp) o e, h2.at fun o e => hk i2 (by simp) o e⟩
  live := fun i h st c hc => by
    obtain ⟨hz, hTI, ⟨a, b, hTO⟩, ⟨o1, h1, _⟩, ⟨o2, h2, _⟩⟩ := st
    simp only [List.mem_cons, List.not_mem_nil, or_false] at hc
    rcases hc with rfl | rfl | rfl | rfl | rfl
    · exact ⟨_, hz⟩
    · exact ⟨_, hTI⟩
    · exact ⟨_, hTO⟩
    · exact ⟨_, h1⟩
    · exact ⟨_, h2⟩
  step := fun i y target s B st Q E r src own at_ hy ht hQ => by
    obtain ⟨x, y, hx, hy2, rfl⟩ := zipYs_get.mp hy
    obtain ⟨its1, hl1, eq1, z1⟩ := src.1.get r
    obtain ⟨its2, hl2, eq2, z2⟩ := src.2.get r
    obtain ⟨v1, hv1, ev1⟩ := map_er_get eq1 hx
    obtain ⟨v2, hv2, ev2⟩ := map_er_get eq2 hy2
    obtain ⟨es, k, p, rfl⟩ := ht
    obtain ⟨hz, hTI, ⟨a, b, hTO⟩, h1, h2⟩ := at_
    refine wpAny_pyNext_zip_item D hz hTI hTO h1 h2 hl1 hl2 hv1 hv2 fun h' a1 a2 a3 a4 a5 a6 hk => ?_
    refine wpAny_letOwnedTupleGo_zip a1 fun h'' hz'' hs'' => ?_
    have neT : s.heap.objs.size ≠ z := Nat.ne_of_gt (Heap.lt_size hz)
    refine hQ (.ref s.heap.objs.size) h'' _ ⟨_, rfl, Heap.fresh_none _, ⟨_, _, (hs''.2 _ neT).trans a5, by rw [show (#[v1, v2] : Array Value).toList = [v1, v2] from rfl, List.map_cons, List.map_cons, List.map_nil, ev1, ev2], by show 2 ≤ sizeLine; decide⟩⟩
      ⟨hz'', (hs''.2 _ D.TIz).trans (hk _ _ D.TIz D.TITO D.TIi1 D.TIi2 hTI), ⟨_, _, (hs''.2 _ D.TOz).trans a2⟩, a3.at fun o e => (hs''.2 _ D.i1z).trans e, a4.at fun o e => (hs''.2 _ D.i2z).trans e⟩ fun b o hb e' => ?_
    simp at hb
    exact (hs''.2 b hb.1).trans (hk b o hb.1 hb.2.2.1 hb.2.2.2.1 hb.2.2.2.2 e')
  done := fun s B st Q E r src own at_ hQ => by
    obtain ⟨its1, hl1, eq1, z1⟩ := src.1.get r
    obtain ⟨its2, hl2, eq2, z2⟩ := src.2.get r
    obtain ⟨hz, hTI, ⟨a, b, hTO⟩, h1, h2⟩ := at_
    rw [zipYs_len] at h1 h2
    have hend : its1[min xs.length ys.length]? = none ∨ its2[min xs.length ys.length]? = none := by
      rcases Nat.le_total xs.length ys.length with h | h
      · exact .inl (by rw [Nat.min_eq_left h, ← map_er_len eq1]; simp)
      · exact .inr (by rw [Nat.min_eq_right h, ← map_er_len eq2]; simp)
    refine wpAny_pyNext_zip_end hh D hz hTI hTO h1 h2 hl1 hl2 hend fun h' hk => hQ h' s.toks fun b o hb e => ?_
    simp at hb
    exact hk b o hb.1 hb.2.2.1 hb.2.2.2.1 hb.2.2.2.2 e
  self := fun i s Q E at_ q => wpAny_pyIter_zip at_.1 q

/-- an expression as a loop's source -/
abbrev YQ := List Yd → (MH → Prop) → Loc → Loc → MH → Prop
def GoodI (X : Cx) (F : Fx) (st : St) (s : Shared) (Q : YQ) (it : Value) (s₂ : Shared) : Prop :=
  ∃ h' tk st' I own At ys src, s₂ = { s with heap := h', toks := tk } ∧ it = .ref I ∧ Rep X.H0 F.B st' h' ∧ Kp F.B.ex st.mh st'.mh s.heap h' ∧ Itr X F.A I own src ys At ∧ At 0 h' ∧
      (∀ b ∈ own, s.heap.get? b = none ∧ Foreign X.H0 F.B st'.mh b ∧ ∃ o, h'.get? b = some o) ∧ Q ys src st'.loc st'.cel st'.mh
def WIt (X : Cx) (F : Fx) (t : Sem Value) (Q : YQ) (E : EQ) (st : St) : Prop :=
  ∀ s : Shared, Rep X.H0 F.B st s.heap → wpAny (model X.prog X.w) F.A t (fun x s₁ => wpAny (model X.prog X.w) F.A (pyIter x) (GoodI X F st s Q) (Post X F.B st s E) s₁) (Post X F.B st s E) s
def WI (X : Cx) (F : Fx) (e : Expr) (Q : YQ) (E : EQ) (lo ce : Loc) (mh : MH) : Prop := WIt X F (eval e F.env) Q E ⟨lo, ce, mh⟩
def ICallV (X : Cx) (F : Fx) (f : Val) (vs : List Val) (Q : YQ) (E : EQ) (lo ce : Loc) (mh : MH) : Prop := ∀ a as, er a = f → as.map er = vs → WIt X F (call a as) Q E ⟨lo, ce, mh⟩

theorem GoodI.from {X : Cx} {F : Fx} {st st₀ : St} {s : Shared} {h₁ : Heap} {tk₁ : Nat} {Q : YQ} {it : Value} {s₂ : Shared} (r₀ : Rep X.H0 F.B st₀ s.heap) (r : Rep X.H0 F.B st h₁) (k : Kp F.B.ex st₀.mh st.mh s.heap h₁)
    (g : GoodI X F st { s with heap := h₁, toks := tk₁ } Q it s₂) : GoodI X F st₀ s Q it s₂ := by
  obtain ⟨h', tk, st', I, own, At, ys, src, e1, e2, r', k', i, a, o, q⟩ := g
  exact ⟨h', tk, st', I, own, At, ys, src, e1, e2, r', k.trans k', i, a, fun b hb => ⟨Kp.fresh r₀ r k (o b hb).1, (o b hb).2⟩, q⟩
theorem WIt.from {X : Cx} {F : Fx} {t : Sem Value} {Q : YQ} {E : EQ} {st st₀ : St} (h : WIt X F t Q E st) {s : Shared} {h₁ : Heap} {tk : Nat} (r₀ : Rep X.H0 F.B st₀ s.heap) (r : Rep X.H0 F.B st h₁) (k : Kp F.B.ex st₀.mh st.mh s.heap h₁) :
    wpAny (model X.prog X.w) F.A t (fun x s₁ => wpAny (model X.prog X.w) F.A (pyIter x) (GoodI X F st₀ s Q) (Post X F.B st₀ s E) s₁) (Post X F.B st₀ s E) { s with heap := h₁, toks := tk } :=
  wpAny_mono (h { s with heap := h₁, toks := tk } r) (fun x s₁ p => wpAny_mono p (fun it s₂ g => g.from r₀ r k) fun _ _ p => p.from k) fun _ _ p => p.from k

/-- an item goes to its target -/
def AssY (X : Cx) (F : Fx) (t : Expr) : Yd → SQ → EQ → Loc → Loc → MH → Prop
  | .val x, Q, E, lo, ce, mh => AssV X F t x Q E lo ce mh
  | .tup xs, Q, E, lo, ce, mh => ∀ T, mh T = none → X.H0.get? T = none → AssV X F t (.ref T) Q E lo ce (mh.set T (.tup xs))

section
variable {X : Cx} {F : Fx} {sc : Scope} {n : Nat} {E : EQ} {lo ce : Loc} {mh : MH}

theorem WI.lst {e : Expr} {Q : YQ} (ok : Ok F sc n) (h : WE X F e (fun v l1 c1 m1 => ∃ a xs, v = .ref a ∧ LstAt X m1 a xs ∧ Q (xs.map .val) (fun m => LstAt X m a xs) l1 c1 m1) E lo ce mh) : WI X F e Q E lo ce mh := fun s r => by
  refine wpAny_mono (h s r) (fun x s₁ p => ?_) fun _ _ p => p
  obtain ⟨h', tk, st', rfl, r', k', a, xs, ea, la, q⟩ := p
  obtain rfl := er_ref ea
  obtain ⟨items, hl, eq, z⟩ := la.get r'
  refine wpAny_pyIter_list (s := { s with heap := h', toks := tk }) hl ?_
  have keep : ∀ b o, h'.get? b = some o → (h'.push { cls := .type "list_iterator", data := .fields #[.ref a, .int 0 0] }).get? b = some o := fun b o e => Heap.get?_push_of_some _ e
  have hal : a ≠ h'.objs.size := by obtain ⟨o, ho, _⟩ := hl; exact Nat.ne_of_lt (Heap.lt_size ho)
  refine ⟨_, tk, st', h'.objs.size, [h'.objs.size], _, _, _, rfl, rfl, r'.ext keep, k'.trans (.ext keep), Itr.list ok.room.hh, ⟨⟨_, Heap.get?_push_size _ rfl, rfl, rfl⟩, fun _ _ => trivial, hal⟩, fun b hb => ?_, q⟩
  obtain rfl : b = h'.objs.size := by simpa using hb
  exact ⟨Kp.fresh r r' k' (Heap.fresh_none _), r'.foreign (Heap.fresh_none _), _, Heap.get?_push_size _ rfl⟩

theorem WI.call {func e : Expr} {args : List Expr} {pos : Pos} {Q : YQ}
    (h : WE X F func (fun f l1 c1 m1 => KeepV X f ∧ WL X F (e :: args) pos (fun vs l2 c2 m2 => ICallV X F f vs Q E l2 c2 m2) E l1 c1 m1) E lo ce mh)
    (hc : eval (.Call func (e :: args) [] pos) F.env = (do callWith pos (← eval func F.env) [] (backTo pos (starEach (e :: args) F.env)) (backToKw pos (keywordEach [] F.env))) := by rfl)
    (he : starEach (e :: args) F.env = (false, eval e F.env) :: starEach args F.env := by rfl) (hplain : (backTo pos (starEach args F.env)).any (·.1) = false := by rfl) : WI X F (.Call func (e :: args) [] pos) Q E lo ce mh := fun s r => by
  rw [hc]
  refine wpAny_bind (wpAny_mono (h s r) (fun a s₁ p => ?_) fun _ _ p => p)
  obtain ⟨h', tk, st', rfl, r', k', hk, hl⟩ := p
  refine callWith_of (P := fun h => ∀ b o, X.H0.get? b = some o → h.get? b = some o) (by rw [he]; show ((false || (backTo pos (starEach args F.env)).any (·.1)) || false) = false; rw [hplain]; rfl) (hk a rfl) ?_
  unfold WL at hl
  rw [he] at hl ⊢
  refine evalArgs_plain (wpAny_mono (W.from hl (st₀ := ⟨lo, ce, mh⟩) (s := s) r' k') (fun vs s1 p => ?_) fun _ _ p => p)
  obtain ⟨h2, tk2, st2, rfl, r2, k2, q⟩ := p
  exact ⟨r2.base, (q a vs rfl rfl).from r r2 k2⟩
end
end Mine

namespace Mine
open PySem PySem.Calls PyProof.Rows PySem.W

section
variable {X : Cx} {F : Fx} {sc : Scope} {n : Nat} {E : EQ} {lo ce : Loc} {mh : MH}

theorem rangeSize_one' (k : Int) : Builtin.Range.rangeSize 0 k 1 = (k.toNat : Int) := by
  unfold Builtin.Range.rangeSize
  split <;> omega
theorem fitsLong {k : Int} (h : k < 2 ^ 62) (h' : -(2 ^ 62) < k) : Builtin.Range.rangeFitsLong k = true := by
  unfold Builtin.Range.rangeFitsLong
  simp only [Bool.and_eq_true, decide_eq_true_eq]
  omega
theorem small_of {a b c : Int} (ha : a < 2 ^ 60) (ha' : -(2 ^ 60) < a) (hb : b < 2 ^ 60) (hb' : -(2 ^ 60) < b) (hc : 0 < c) (hc2 : c < 1000) : Builtin.Range.small a b c = true := by
  have hz : Builtin.Range.rangeSize a b c < 2 ^ 62 ∧ -(2 ^ 62) < Builtin.Range.rangeSize a b c := by
    unfold Builtin.Range.rangeSize
    rw [if_pos hc]
    split
    · have h1 : 0 ≤ (b - a - 1) / c := Int.ediv_nonneg (by omega) (by omega)
      have h2 : (b - a - 1) / c ≤ b - a - 1 := Int.ediv_le_self _ (by omega)
      omega
    · omega
  unfold Builtin.Range.small
  rw [fitsLong (by omega) (by omega), fitsLong (by omega) (by omega), fitsLong (by omega) (by omega), fitsLong hz.1 hz.2, if_pos hc, fitsLong (by omega) (by omega)]
  simp

theorem range_good {s : Shared} {st : St} {Q : YQ} {a b c : Int} {t u v : Tok} {m : Nat} (ok : Ok F sc n) (r : Rep X.H0 F.B st s.heap) (hs : Builtin.Range.small a b c = true) (hm : Builtin.Range.rangeSize a b c = (m : Int))
    (q : Q (rangeYs a c m) (fun _ => True) st.loc st.cel st.mh) {tk : Nat} :
    wpAny (model X.prog X.w) F.A (pyIter (.ref s.heap.objs.size)) (GoodI X F st s Q) (Post X F.B st s E) { s with heap := s.heap.push { cls := .type "range", data := .fields #[.int a t, .int b u, .int c v] }, toks := tk } := by
  refine wpAny_pyIter_range (IsRange.new _ a b c t u v) hs ?_
  have keep : ∀ x o, s.heap.get? x = some o → ((s.heap.push { cls := .type "range", data := .fields #[.int a t, .int b u, .int c v] }).push { cls := .type "range_iterator", data := .fields #[rawInt a, rawInt (Builtin.Range.rangeSize a b c), rawInt c] }).get? x = some o :=
    fun x o e => Heap.get?_push_of_some _ (Heap.get?_push_of_some _ e)
  have hsz : (s.heap.push { cls := .type "range", data := .fields #[.int a t, .int b u, .int c v] }).objs.size = s.heap.objs.size + 1 := Heap.size_push ..
  have hnew : s.heap.get? (s.heap.push { cls := .type "range", data := .fields #[.int a t, .int b u, .int c v] }).objs.size = none := by
    cases e : s.heap.get? (s.heap.push { cls := .type "range", data := .fields #[.int a t, .int b u, .int c v] }).objs.size with
    | none => rfl
    | some o => have := Heap.lt_size e; rw [hsz] at this; exact absurd this (Nat.not_lt.mpr (Nat.le_succ _))
  refine ⟨_, _, st, _, [_], _, _, _, rfl, rfl, r.ext keep, .ext keep, Itr.range (a := a) (c := c) (n := m) ok.room.hh, ?_, fun x hx => ?_, q⟩
  · show IsRangeIter _ _ _ _ _
    have := Heap.get?_push_size (s.heap.push { cls := .type "range", data := .fields #[.int a t, .int b u, .int c v] }) (o := { cls := .type "range_iterator", data := .fields #[rawInt a, rawInt (Builtin.Range.rangeSize a b c), rawInt c] }) rfl
    simpa [IsRangeIter, hm] using this
  · obtain rfl := List.mem_singleton.mp hx
    exact ⟨hnew, r.foreign hnew, _, Heap.get?_push_size _ rfl⟩

theorem ICallV.range1 {k : Int} {Q : YQ} (ok : Ok F sc n) (hk : k < 2 ^ 60) (hk' : -(2 ^ 60) < k) (q : Q (rangeYs 0 1 k.toNat) (fun _ => True) lo ce mh) : ICallV X F (.type "range") [.int k] Q E lo ce mh := by
  intro a as ha has s r
  obtain rfl := er_type ha
  obtain ⟨v, rfl, hv⟩ := map_er1 has
  obtain ⟨t, rfl⟩ := er_int hv
  exact call_range_1 (range_good ok r (small_of (by omega) (by omega) hk hk' (by omega) (by omega)) (rangeSize_one' k) q)
theorem ICallV.range3 {i j k : Int} {m : Nat} {Q : YQ} (ok : Ok F sc n) (hi : i < 2 ^ 60) (hi' : -(2 ^ 60) < i) (hj : j < 2 ^ 60) (hj' : -(2 ^ 60) < j) (hk : 0 < k) (hk' : k < 1000) (hm : Builtin.Range.rangeSize i j k = (m : Int))
    (q : Q (rangeYs i k m) (fun _ => True) lo ce mh) : ICallV X F (.type "range") [.int i, .int j, .int k] Q E lo ce mh := by
  intro a as ha has s r
  obtain rfl := er_type ha
  obtain ⟨v1, v2, v3, rfl, h1, h2, h3⟩ := map_er3 has
  obtain ⟨t, rfl⟩ := er_int h1
  obtain ⟨u, rfl⟩ := er_int h2
  obtain ⟨v, rfl⟩ := er_int h3
  exact call_range_3 (by omega) (range_good ok r (small_of hi hi' hj hj' hk hk') hm q) (Or.inl (PyProof.noPylong_small (by omega)))

theorem ICallV.enum {l : Addr} {xs : List Val} {Q : YQ} (ok : Ok F sc n) (la : LstAt X mh l xs) (q : Q (enumYs xs) (fun m => LstAt X m l xs) lo ce mh) : ICallV X F (.type "enumerate") [.ref l] Q E lo ce mh := by
  intro a as ha has s r
  obtain rfl := er_type ha
  obtain ⟨v, rfl, hv⟩ := map_er1 has
  obtain rfl := er_ref hv
  obtain ⟨items, hl, eq, z⟩ := la.get r
  have hlt : l < s.heap.objs.size := by obtain ⟨o, ho, _⟩ := hl; exact Heap.lt_size ho
  refine call_enumerate_list hl fun h' he hit hsz hk => ?_
  refine wpAny_pyIter_enum he ⟨h', _, ⟨lo, ce, mh⟩, _, [s.heap.objs.size + 1, s.heap.objs.size], _, _, _, rfl, rfl, r.ext hk, .ext hk, Itr.enum ok.room.hh (Nat.succ_ne_self _), ⟨⟨_, he⟩, hit, Nat.ne_of_lt (Nat.lt_succ_of_lt hlt), Nat.ne_of_lt hlt⟩, fun b hb => ?_, q⟩
  have hb' : b = s.heap.objs.size + 1 ∨ b = s.heap.objs.size := by simpa using hb
  have hnone : s.heap.get? b = none := by
    cases e : s.heap.get? b with
    | none => rfl
    | some o => have h1 := Heap.lt_size e; rcases hb' with rfl | rfl; exact absurd h1 (Nat.not_lt.mpr (Nat.le_succ _)); exact absurd h1 (Nat.lt_irrefl _)
  refine ⟨hnone, r.foreign hnone, ?_⟩
  rcases hb' with rfl | rfl
  · exact ⟨_, he⟩
  · obtain ⟨o, ho, _⟩ := hit; exact ⟨o, ho⟩

theorem ICallV.zip {l1 l2 : Addr} {xs ys : List Val} {Q : YQ} (ok : Ok F sc n) (la1 : LstAt X mh l1 xs) (la2 : LstAt X mh l2 ys) (q : Q (zipYs xs ys) (fun m => LstAt X m l1 xs ∧ LstAt X m l2 ys) lo ce mh) : ICallV X F (.type "zip") [.ref l1, .ref l2] Q E lo ce mh := by
  intro a as ha has s r
  obtain rfl := er_type ha
  obtain ⟨v1, v2, rfl, hv1, hv2⟩ := map_er2 has
  obtain rfl := er_ref hv1
  obtain rfl := er_ref hv2
  obtain ⟨its1, hl1, eq1, z1⟩ := la1.get r
  obtain ⟨its2, hl2, eq2, z2⟩ := la2.get r
  have hlt1 : l1 < s.heap.objs.size := by obtain ⟨o, ho, _⟩ := hl1; exact Heap.lt_size ho
  have hlt2 : l2 < s.heap.objs.size := by obtain ⟨o, ho, _⟩ := hl2; exact Heap.lt_size ho
  refine call_zip_2 hl1 hl2 fun h' hz hTI hTO hi1 hi2 hsz hk => ?_
  refine wpAny_pyIter_zip hz ⟨h', _, ⟨lo, ce, mh⟩, _, [s.heap.objs.size + 4, s.heap.objs.size + 2, s.heap.objs.size + 3, s.heap.objs.size, s.heap.objs.size + 1], _, _, _, rfl, rfl, r.ext hk, .ext hk,
    Itr.zip ok.room.hh (zipApart_new hlt1 hlt2), ⟨hz, hTI, ⟨_, _, hTO⟩, hi1, hi2⟩, fun b hb => ?_, q⟩
  have hge : s.heap.objs.size ≤ b := by
    simp only [List.mem_cons, List.not_mem_nil, or_false] at hb
    rcases hb with rfl | rfl | rfl | rfl | rfl
    · exact Nat.le_add_right _ 4
    · exact Nat.le_add_right _ 2
    · exact Nat.le_add_right _ 3
    · exact Nat.le_refl _
    · exact Nat.le_add_right _ 1
  have hnone : s.heap.get? b = none := by
    cases e : s.heap.get? b with
    | none => rfl
    | some o => exact absurd (Heap.lt_size e) (Nat.not_lt.mpr hge)
  refine ⟨hnone, r.foreign hnone, ?_⟩
  simp only [List.mem_cons, List.not_mem_nil, or_false] at hb
  rcases hb with rfl | rfl | rfl | rfl | rfl
  · exact ⟨_, hz⟩
  · exact ⟨_, hTI⟩
  · exact ⟨_, hTO⟩
  · obtain ⟨o, ho, _⟩ := hi1; exact ⟨o, ho⟩
  · obtain ⟨o, ho, _⟩ := hi2; exact ⟨o, ho⟩

/-- an item taken and given to its target: the state behind it -/
theorem Rep.turn {own : List Addr} {y : Yd} {v : Value} {st st₀ : St} {h h₀ h₁ : Heap} {P : SQ} {t : Expr} (r₀ : Rep X.H0 F.B st₀ h₀) (r : Rep X.H0 F.B st h) (k : Kp F.B.ex st₀.mh st.mh h₀ h) (hk : ∀ b o, b ∉ own → h.get? b = some o → h₁.get? b = some o)
    (ho : ∀ b ∈ own, h₀.get? b = none ∧ Foreign X.H0 F.B st.mh b ∧ ∃ o, h.get? b = some o) (hy : YRel h h₁ y v) (ha : AssY X F t y P (fun _ _ => False) st.loc st.cel st.mh) :
    ∃ mh₁, Rep X.H0 F.B ⟨st.loc, st.cel, mh₁⟩ h₁ ∧ Kp F.B.ex st₀.mh mh₁ h₀ h₁ ∧ (∀ b ∈ own, Foreign X.H0 F.B mh₁ b) ∧ W X F.A F.B (assign t F.env v) (fun _ st' => P st'.loc st'.cel st'.mh) (fun _ _ => False) ⟨st.loc, st.cel, mh₁⟩ := by
  have r1 := r.but hk fun b hb => (ho b hb).2.1
  have k1 := k.but hk fun b hb => (ho b hb).1
  cases y with
  | val x => exact ⟨st.mh, r1, k1, fun b hb => (ho b hb).2.1, ha v hy⟩
  | tup xs =>
    obtain ⟨T, rfl, hT, hrel⟩ := hy
    have fT : Foreign X.H0 F.B st.mh T := r.foreign hT
    refine ⟨st.mh.set T (.tup xs), r1.adopt fT hrel, k1.adopt (Kp.fresh r₀ r k hT), fun b hb => ?_, ha T fT.2.1 fT.1 (.ref T) rfl⟩
    obtain ⟨f1, f2, f3, f4⟩ := (ho b hb).2.1
    have hne : b ≠ T := fun q => by obtain ⟨o, e⟩ := (ho b hb).2.2; rw [q, hT] at e; cases e
    exact ⟨f1, by rw [MH.set_ne hne]; exact f2, f3, f4⟩

theorem WS.for {target iter : Expr} {body : List Stmt} {pos : Pos} {Q : FQ}
    (h : WI X F iter (fun ys src l1 c1 m1 => ∃ Inv : Nat → Loc → Loc → MH → Prop, Inv 0 l1 c1 m1 ∧ (∀ i l c m, Inv i l c m → src m) ∧ (∀ y ∈ ys, YTgt y target) ∧
      (∀ i y l c m, ys[i]? = some y → Inv i l c m → AssY X F target y (fun l2 c2 m2 => WB X F body (fun f l3 c3 m3 => match f with | .next => Inv (i + 1) l3 c3 m3 | .cont => Inv (i + 1) l3 c3 m3 | .brk => Q .next l3 c3 m3 | .ret v => Q (.ret v) l3 c3 m3) (fun _ _ => False) l2 c2 m2) (fun _ _ => False) l c m) ∧
      (∀ l c m, Inv ys.length l c m → Q .next l c m)) E lo ce mh)
    (hs : ∀ x, foldedSetIterable iter F.env x = pure x := by intro _; rfl) : WS X F (.For target iter body [] pos) Q E lo ce mh := fun s r => by
  refine wpAny_For (wpAny_mono (h s r) (fun x s₁ p => wpAny_mono p (fun it s₂ g => ?_) fun _ _ p => p) fun _ _ p => p) hs
  obtain ⟨h0, tk0, st0, I, own, At, ys, src, rfl, rfl, r0, k0, T, at0, ho0, Inv, i0, isrc, itgt, istep, iend⟩ := g
  refine codeAny_forLoop_any (fun m s' => ∃ h' tk' st' i, s' = { s with heap := h', toks := tk' } ∧ Rep X.H0 F.B st' h' ∧ Kp F.B.ex mh st'.mh s.heap h' ∧ At i h' ∧ (∀ b ∈ own, Foreign X.H0 F.B st'.mh b) ∧ Inv i st'.loc st'.cel st'.mh ∧ i ≤ ys.length ∧ m = ys.length + 1 - i) ?_ (ys.length + 1)
    ⟨h0, tk0, st0, 0, rfl, r0, k0, at0, fun b hb => (ho0 b hb).2.1, i0, Nat.zero_le _, rfl⟩
  rintro m s' ⟨h1, tk1, st1, i, rfl, r1, k1, at1, f1, inv1, hi, rfl⟩
  have own1 : ∀ b ∈ own, st1.mh b = none ∧ X.H0.get? b = none := fun b hb => ⟨(f1 b hb).2.1, (f1 b hb).1⟩
  have ho1 : ∀ b ∈ own, s.heap.get? b = none ∧ Foreign X.H0 F.B st1.mh b ∧ ∃ o, h1.get? b = some o := fun b hb => ⟨(ho0 b hb).1, f1 b hb, T.live i h1 at1 b hb⟩
  by_cases hlt : i < ys.length
  · have hy : ys[i]? = some ys[i] := List.getElem?_eq_getElem hlt
    refine wpAny_mono (T.step i ys[i] target { s with heap := h1, toks := tk1 } F.B st1 (fun v s2 => wpAny (model X.prog X.w) F.A (PySem.assign target F.env v) (fun _ s₂ => wpAny (model X.prog X.w) F.A (execs body F.env) (fun f s₃ => match f with
            | .next | .cont => ∃ m, m < ys.length + 1 - i ∧ ∃ h' tk' st' i, s₃ = { s with heap := h', toks := tk' } ∧ Rep X.H0 F.B st' h' ∧ Kp F.B.ex mh st'.mh s.heap h' ∧ At i h' ∧ (∀ b ∈ own, Foreign X.H0 F.B st'.mh b) ∧ Inv i st'.loc st'.cel st'.mh ∧ i ≤ ys.length ∧ m = ys.length + 1 - i
            | .brk => Post X F.B ⟨lo, ce, mh⟩ s (fun f st' => Q (erF f) st'.loc st'.cel st'.mh) .next s₃
            | .ret v => Post X F.B ⟨lo, ce, mh⟩ s (fun f st' => Q (erF f) st'.loc st'.cel st'.mh) (.ret v) s₃) (fun _ _ => False) s₂) (fun _ _ => False) s2) (fun _ _ => False) r1 (isrc _ _ _ _ inv1) own1 at1 hy (itgt _ (List.getElem_mem hlt)) fun v h2 tk2 hv at2 hk2 => ?_) (fun rr s₁ p => ?_) fun _ _ p => p.elim
    · obtain ⟨mh2, r2, k2, f2, hW⟩ := Rep.turn (t := target) r r1 k1 hk2 ho1 hv (istep i _ _ _ _ hy inv1)
      refine wpAny_mono (hW { s with heap := h2, toks := tk2 } r2) (fun _ s3 p => ?_) fun _ _ p => by obtain ⟨_, _, _, _, _, _, f⟩ := p; exact f.elim
      obtain ⟨h3, tk3, st3, rfl, r3, k3, hB⟩ := p
      refine wpAny_mono (hB { s with heap := h3, toks := tk3 } r3) (fun f s4 p => ?_) fun _ _ p => by obtain ⟨_, _, _, _, _, _, f⟩ := p; exact f.elim
      obtain ⟨h4, tk4, st4, rfl, r4, k4, hQ⟩ := p
      have kl : Kp F.B.ex mh2 st4.mh h2 h4 := Kp.trans k3 k4
      have kg : Kp F.B.ex mh st4.mh s.heap h4 := k2.trans kl
      have next : Inv (i + 1) st4.loc st4.cel st4.mh → ∃ m, m < ys.length + 1 - i ∧ ∃ h' tk' st' j, ({ s with heap := h4, toks := tk4 } : Shared) = { s with heap := h', toks := tk' } ∧ Rep X.H0 F.B st' h' ∧ Kp F.B.ex mh st'.mh s.heap h' ∧ At j h' ∧ (∀ b ∈ own, Foreign X.H0 F.B st'.mh b) ∧ Inv j st'.loc st'.cel st'.mh ∧ j ≤ ys.length ∧ m = ys.length + 1 - j := fun hI => by
        refine ⟨ys.length + 1 - (i + 1), by omega, h4, tk4, st4, i + 1, rfl, r4, kg, T.frame _ _ _ at2 fun b hb o e => (kl.keep b o e (f2 b hb).2.1 (f2 b hb).2.2.1).2, fun b hb => ?_, hI, hlt, rfl⟩
        obtain ⟨o, e⟩ := T.live _ _ at2 b hb
        exact ⟨(f2 b hb).1, (kl.keep b o e (f2 b hb).2.1 (f2 b hb).2.2.1).1, (f2 b hb).2.2⟩
      cases f with
      | next => exact next hQ
      | cont => exact next hQ
      | brk => exact ⟨h4, tk4, st4, rfl, r4, kg, hQ⟩
      | ret v => exact ⟨h4, tk4, st4, rfl, r4, kg, hQ⟩
    · cases rr with
      | none => exact p.elim
      | some v => exact wpAny_mono p (fun _ s₂ p => wpAny_mono p (fun _ s₃ p => wpAny_mono p (fun _ _ p => p) fun _ _ p => p.elim) fun _ _ p => p.elim) fun _ _ p => p.elim
  · obtain rfl : i = ys.length := by omega
    refine T.done { s with heap := h1, toks := tk1 } F.B st1 _ _ r1 (isrc _ _ _ _ inv1) own1 at1 fun h2 tk2 hk2 => ?_
    exact wpAny_execs_nil ⟨h2, tk2, st1, rfl, r1.but hk2 fun b hb => f1 b hb, k1.but hk2 fun b hb => (ho0 b hb).1, iend _ _ _ inv1⟩
end
end Mine

namespace Mine
open PySem PySem.Calls PyProof.Rows PySem.W

section
variable {X : Cx} {F : Fx} {sc : Scope} {n : Nat} {E : EQ} {lo ce : Loc} {mh : MH}

theorem WS.while {test : Expr} {body : List Stmt} {pos : Pos} {Q : FQ} (Inv : Nat → Loc → Loc → MH → Prop) (k : Nat) (h0 : Inv k lo ce mh)
    (turn : ∀ k l c m, Inv k l c m → WT X F test (fun b l1 c1 m1 => (b = true → WB X F body (fun f l2 c2 m2 => match f with | .next => ∃ j, j < k ∧ Inv j l2 c2 m2 | .cont => ∃ j, j < k ∧ Inv j l2 c2 m2 | .brk => Q .next l2 c2 m2 | .ret v => Q (.ret v) l2 c2 m2) (fun _ _ => False) l1 c1 m1) ∧ (b = false → Q .next l1 c1 m1)) (fun _ _ => False) l c m) :
    WS X F (.While test body [] pos) Q E lo ce mh := fun s r => by
  refine wpAny_While (codeAny_whileLoop (fun m s' => ∃ h' tk' st', s' = { s with heap := h', toks := tk' } ∧ Rep X.H0 F.B st' h' ∧ Kp F.B.ex mh st'.mh s.heap h' ∧ Inv m st'.loc st'.cel st'.mh) ?_ k ⟨s.heap, s.toks, _, rfl, r, .refl, h0⟩)
  rintro m s' ⟨h1, tk1, st1, rfl, r1, k1, inv1⟩
  refine wpAny_mono (turn m _ _ _ inv1 { s with heap := h1, toks := tk1 } r1) (fun b s2 p => ?_) fun _ _ p => by obtain ⟨_, _, _, _, _, _, f⟩ := p; exact f.elim
  obtain ⟨h2, tk2, st2, rfl, r2, k2, q2⟩ := p
  cases b with
  | false =>
    rw [if_neg (by decide)]
    exact wpAny_execs_nil ⟨h2, tk2, st2, rfl, r2, k1.trans k2, q2.2 rfl⟩
  | true =>
    rw [if_pos rfl]
    refine wpAny_mono (q2.1 rfl { s with heap := h2, toks := tk2 } r2) (fun f s3 p => ?_) fun _ _ p => by obtain ⟨_, _, _, _, _, _, f⟩ := p; exact f.elim
    obtain ⟨h3, tk3, st3, rfl, r3, k3, q3⟩ := p
    have kg : Kp F.B.ex mh st3.mh s.heap h3 := (k1.trans k2).trans k3
    cases f with
    | next => obtain ⟨j, hj, q⟩ := q3; exact ⟨j, hj, h3, tk3, st3, rfl, r3, kg, q⟩
    | cont => obtain ⟨j, hj, q⟩ := q3; exact ⟨j, hj, h3, tk3, st3, rfl, r3, kg, q⟩
    | brk => exact ⟨h3, tk3, st3, rfl, r3, kg, q3⟩
    | ret v => exact ⟨h3, tk3, st3, rfl, r3, kg, q3⟩

/-- several targets, one after the other -/
def AssL (X : Cx) (F : Fx) (ts : List Expr) (xs : List Val) (Q : SQ) (E : EQ) (lo ce : Loc) (mh : MH) : Prop := ∀ raws : List Value, raws.map er = xs → W X F.A F.B (assignInOrder ((assignEach ts F.env).map (·.2)) raws) (fun _ st' => Q st'.loc st'.cel st'.mh) E ⟨lo, ce, mh⟩
theorem AssL.nil {Q : SQ} (h : Q lo ce mh) : AssL X F [] [] Q E lo ce mh := fun raws hr => by
  obtain rfl : raws = [] := by simpa using hr
  exact W.pure h
theorem AssL.cons {t : Expr} {ts : List Expr} {x : Val} {xs : List Val} {Q : SQ} (h : AssV X F t x (fun l1 c1 m1 => AssL X F ts xs Q E l1 c1 m1) E lo ce mh)
    (he : assignEach (t :: ts) F.env = (false, assign t F.env) :: assignEach ts F.env := by rfl) : AssL X F (t :: ts) (x :: xs) Q E lo ce mh := fun raws hr => by
  match raws, hr with
  | v :: rest, hr =>
    simp only [List.map_cons, List.cons.injEq] at hr
    rw [he]
    exact W.bind (W.holding (W.weak (h v hr.1) fun _ st1 h1 => h1 rest hr.2))
theorem ext_fresh {s : Shared} {h' : Heap} (k : Heap.ExtBut s.heap.objs.size s.heap h') : ∀ b o, s.heap.get? b = some o → h'.get? b = some o := fun b o e => k b o (Nat.ne_of_lt (Heap.lt_size e)) e
theorem AssV.tuple {ts : List Expr} {k : Nat} {pos : Pos} {T : Addr} {xs : List Val} {Q : SQ} (ok : Ok F sc n) (hT : mh T = some (.tup xs)) (h : AssL X F ts xs Q E lo ce mh)
    (hn : (assignEach ts F.env).length = xs.length := by rfl) (hstar : (assignEach ts F.env).findIdx? (·.1) = none := by rfl) : AssV X F (.Tuple ts k pos) (.ref T) Q E lo ce mh := fun a ha s r => by
  obtain rfl := er_ref ha
  obtain ⟨items, ht, eq, z⟩ := r.tup (X := X) hT
  refine wpAny_assign_Tuple ok.room.hh ht (by rw [hn, map_er_len eq]) hstar fun h' k' => ?_
  exact W.from (h items.toList eq) (st₀ := ⟨lo, ce, mh⟩) (r.ext (ext_fresh k')) (.ext (ext_fresh k'))

theorem WS.expr {e : Expr} {pos : Pos} {Q : FQ} (h : WE X F e (fun v l1 c1 m1 => Q .next l1 c1 m1) E lo ce mh) (hi : interactive F.env = false := by rfl) (hs : swapsWith e none pos.line F.env = pure false := by rfl) : WS X F (.Expr e pos) Q E lo ce mh := by
  refine W.of_eq (exec_Expr F.env e pos hi hs) (W.bind (W.standAt (W.bind (W.weak h fun v st1 h1 => ?_))))
  intro s r
  unfold dropValue
  split
  · exact wpAny_pure (.here (tk := s.toks) r h1)
  · exact wpAny_bind (wpAny_standAt (wpAny_bind (wpAny_runValue (codeAny_builtin entry_let_go (show wpAny _ _ (PySem.ret Value.none) _ _ s from wpAny_pure (wpAny_pure (.here (tk := s.toks) r h1)))))))
  · exact wpAny_pure (.here (tk := s.toks) r h1)

-- sequences
theorem lt63 {m : Nat} (h : m ≤ sizeLine) : (m : Int) < 2 ^ 63 := by
  have : sizeLine < 2 ^ 63 := by decide
  omega
theorem CallV.len {a : Addr} {xs : List Val} {Q : VQ} (la : LstAt X mh a xs) (h : Q (.int xs.length) lo ce mh) : CallV X F (.builtin "len") [.ref a] Q E lo ce mh := by
  intro f as hf has s r
  obtain rfl := er_builtin hf
  obtain ⟨v, rfl, hv⟩ := map_er1 has
  obtain rfl := er_ref hv
  obtain ⟨items, hl, eq, z⟩ := la.get r
  have hb : (items.size : Int) < 2 ^ 63 := by rw [map_er_len eq]; exact lt63 z
  refine Calls.call_len_list hl hb (.here r ?_)
  show Q (.int (items.size : Int)) lo ce mh
  rw [map_er_len eq]; exact h
theorem SubV.lst {value slice : Expr} {a : Addr} {xs : List Val} {k : Int} {x : Val} {Q : VQ} (la : LstAt X mh a xs) (h0 : 0 ≤ k) (hx : xs[k.toNat]? = some x) (h : Q x lo ce mh)
    (hs : ∀ i : Value, subscripted slice false (.ref a) i = operate [.ref a, i] (getItem (.ref a) i) := by intro _; rfl) : SubV X F value slice (.ref a) (.int k) Q E lo ce mh := by
  intro f i hf hi s r
  obtain rfl := er_ref hf
  obtain ⟨t, rfl⟩ := er_int hi
  obtain ⟨items, hl, eq, z⟩ := la.get r
  obtain ⟨v, hv, ev⟩ := map_er_get eq hx
  have hlt : k.toNat < xs.length := (List.getElem?_eq_some_iff.mp hx).1
  have hb : k < 2 ^ 63 := by have := lt63 z; omega
  exact tail_any hl.typeIs slot_list_getitem.lookup (wpAny_getItem_list hl h0 hb hv (.here (tk := s.toks) r (by rw [ev]; exact h))) (hs _)
theorem WE.sub {value slice : Expr} {pos : Pos} {Q : VQ} (h : WE X F value (fun v l1 c1 m1 => WE X F slice (fun w l2 c2 m2 => SubV X F value slice v w Q E l2 c2 m2) E l1 c1 m1) E lo ce mh) : WE X F (.Subscript value slice pos) Q E lo ce mh :=
  W.of_eq (eval_Subscript ..) (W.bind (W.weak h fun a st1 h1 => W.bind (W.holding (W.weak h1 fun b st2 h2 => W.bind (W.standAt (h2 a b rfl rfl))))))
end
end Mine

namespace Mine
open PySem PySem.Calls PyProof.Rows PySem.W

/-- a comprehension's scope, its free names being cells of the function around -/
def relab (scope outer : Scope) : Scope :=
  { scope with names := scope.names.map fun (n, k) => if (k == .free && outer.names.lookup n == some .cell) then (n, .cell) else (n, k) }
theorem relab_eq {scope sc : Scope} {env : Env} (h : env.scope = sc) (hk : sc.kind = .function) : relabel scope env = relab scope sc := by
  unfold relabel relab
  have : ∀ n, env.kindOf n = sc.names.lookup n := fun n => by show env.scope.names.lookup n = _; rw [h]
  simp only [this, h, hk]
  congr 1
  refine List.map_congr_left fun p _ => ?_
  obtain ⟨n, k⟩ := p
  cases k <;> simp

/-- the cells that a comprehension sees -/
inductive CelOf (ce : Loc) : List (Str × NameKind) → Loc → Prop where
  | nil : CelOf ce [] []
  | loc {x : Str} {r : List (Str × NameKind)} {l : Loc} : CelOf ce r l → CelOf ce ((x, .local) :: r) l
  | glob {x : Str} {r : List (Str × NameKind)} {l : Loc} : CelOf ce r l → CelOf ce ((x, .globalImplicit) :: r) l
  | free {x : Str} {o : Option Val} {r : List (Str × NameKind)} {l : Loc} : (x, o) ∈ ce → CelOf ce r l → CelOf ce ((x, .free) :: r) ((x, o) :: l)
theorem CelOf.mem {ce l : Loc} {ns : List (Str × NameKind)} (h : CelOf ce ns l) : ∀ p ∈ l, p ∈ ce ∧ (p.1, NameKind.free) ∈ ns := by
  induction h with
  | nil => intro p hp; cases hp
  | loc _ ih => intro p hp; exact ⟨(ih p hp).1, List.mem_cons_of_mem _ (ih p hp).2⟩
  | glob _ ih => intro p hp; exact ⟨(ih p hp).1, List.mem_cons_of_mem _ (ih p hp).2⟩
  | free hx _ ih =>
    intro p hp
    rcases List.mem_cons.mp hp with rfl | hp
    · exact ⟨hx, List.mem_cons_self⟩
    · exact ⟨(ih p hp).1, List.mem_cons_of_mem _ (ih p hp).2⟩
theorem CelOf.frees {ce l : Loc} {ns : List (Str × NameKind)} (h : CelOf ce ns l) : ∀ x, (x, NameKind.free) ∈ ns → ∃ o, (x, o) ∈ ce := by
  induction h with
  | nil => intro x hx; cases hx
  | loc _ ih => intro x hx; rcases List.mem_cons.mp hx with e | hx; cases e; exact ih x hx
  | glob _ ih => intro x hx; rcases List.mem_cons.mp hx with e | hx; cases e; exact ih x hx
  | free hx' _ ih => intro x hx; rcases List.mem_cons.mp hx with e | hx; cases e; exact ⟨_, hx'⟩; exact ih x hx
theorem CelOf.sub {ce l : Loc} {ns : List (Str × NameKind)} (h : CelOf ce ns l) : (l.map (·.1)).Sublist (ns.map (·.1)) := by
  induction h with
  | nil => exact .slnil
  | loc _ ih => exact .cons _ ih
  | glob _ ih => exact .cons _ ih
  | free _ _ ih => exact .cons_cons _ ih
theorem CelOf.kinds {ce l : Loc} {ns : List (Str × NameKind)} (h : CelOf ce ns l) : ∀ p ∈ ns, p.2 ≠ .cell := by
  induction h with
  | nil => intro p hp; cases hp
  | loc _ ih => intro p hp; rcases List.mem_cons.mp hp with rfl | hp; exact nofun; exact ih p hp
  | glob _ ih => intro p hp; rcases List.mem_cons.mp hp with rfl | hp; exact nofun; exact ih p hp
  | free _ _ ih => intro p hp; rcases List.mem_cons.mp hp with rfl | hp; exact nofun; exact ih p hp

/-- the closure that a comprehension takes along -/
theorem closure_ok {env : Env} : ∀ (names : List (Str × NameKind)) (acc : List (Str × Addr)), (∀ x, (x, NameKind.free) ∈ names → ∃ c, env.cells.lookup x = some c) →
    ∃ cl, (forIn names acc fun (x : Str × NameKind) cs => if (x.2 == .free) = true then (do let a ← cellOf env x.1; pure (ForInStep.yield ((x.1, a) :: cs))) else pure (ForInStep.yield cs) : Sem (List (Str × Addr))) = pure cl ∧
      (∀ p ∈ cl, p ∈ acc ∨ ((p.1, NameKind.free) ∈ names ∧ env.cells.lookup p.1 = some p.2)) ∧ (∀ x, (x, NameKind.free) ∈ names → ∃ c, (x, c) ∈ cl) ∧ (∀ p ∈ acc, p ∈ cl)
  | [], acc, _ => ⟨acc, by simp, fun p hp => .inl hp, fun x hx => (nomatch hx), fun p hp => hp⟩
  | (n, k) :: r, acc, h => by
    by_cases hk : (k == NameKind.free) = true
    · obtain rfl : k = .free := by simpa using hk
      obtain ⟨c, hc⟩ := h n List.mem_cons_self
      obtain ⟨cl, e, h1, h2, h3⟩ := closure_ok r ((n, c) :: acc) fun x hx => h x (List.mem_cons_of_mem _ hx)
      refine ⟨cl, ?_, fun p hp => ?_, fun x hx => ?_, fun p hp => h3 p (List.mem_cons_of_mem _ hp)⟩
      · rw [List.forIn_cons]
        simp only [hk, if_true, cellOf, hc, pure_bind]
        exact e
      · rcases h1 p hp with q | q
        · rcases List.mem_cons.mp q with rfl | q
          · exact .inr ⟨List.mem_cons_self, hc⟩
          · exact .inl q
        · exact .inr ⟨List.mem_cons_of_mem _ q.1, q.2⟩
      · rcases List.mem_cons.mp hx with q | q
        · cases q; exact ⟨c, h3 _ List.mem_cons_self⟩
        · exact h2 x q
    · obtain ⟨cl, e, h1, h2, h3⟩ := closure_ok r acc fun x hx => h x (List.mem_cons_of_mem _ hx)
      refine ⟨cl, ?_, fun p hp => ?_, fun x hx => ?_, h3⟩
      · rw [List.forIn_cons, if_neg hk, pure_bind]
        exact e
      · rcases h1 p hp with q | q
        · exact .inl q
        · exact .inr ⟨List.mem_cons_of_mem _ q.1, q.2⟩
      · rcases List.mem_cons.mp hx with q | q
        · cases q; exact absurd rfl hk
        · exact h2 x q

abbrev compBlk (scope sc : Scope) (cl : List (Str × Addr)) (C : Addr) : Blk := ⟨relab scope sc, C, cl, [C]⟩

theorem relab_lookup {scope sc : Scope} (nd : (scope.names.map (·.1)).Nodup) : ∀ p ∈ scope.names, (relab scope sc).names.lookup p.1 = some (if (p.2 == .free && sc.names.lookup p.1 == some .cell) then .cell else p.2) := by
  have h1 : (relab scope sc).names = scope.names.map fun p => (p.1, if (p.2 == .free && sc.names.lookup p.1 == some .cell) then .cell else p.2) := by
    unfold relab
    refine List.map_congr_left fun p _ => ?_
    obtain ⟨n, k⟩ := p
    simp only
    split <;> rfl
  intro p hp
  rw [h1]
  refine lookup_of_nodup (l := scope.names.map fun p => (p.1, if (p.2 == .free && sc.names.lookup p.1 == some .cell) then .cell else p.2)) ?_ (p.1, if (p.2 == .free && sc.names.lookup p.1 == some .cell) then .cell else p.2) (List.mem_map_of_mem hp)
  rw [List.map_map]; exact nd

theorem relab_nodup {scope sc : Scope} (nd : (scope.names.map (·.1)).Nodup) : ((relab scope sc).names.map (·.1)).Nodup := by
  have h1 : (relab scope sc).names.map (·.1) = scope.names.map (·.1) := by
    unfold relab
    rw [List.map_map]
    refine List.map_congr_left fun p _ => ?_
    obtain ⟨n, k⟩ := p
    simp only [Function.comp]
    split <;> rfl
  rw [h1]; exact nd
/-- the inner block's state, out of the outer one's -/
theorem Rep.toComp {H0 : Heap} {B : Blk} {lo ce ce2 : Loc} {mh : MH} {h : Heap} {scope sc : Scope} {cl : List (Str × Addr)} {C : Addr} {mC : Str → Option Value} (xs : List Str) (r : Rep H0 B ⟨lo, ce, mh⟩ h) (hB : B.sc = sc) (hsc : scOk scope = true) (hce : CelOf ce scope.names ce2)
    (hcl : ∀ p ∈ cl, (p.1, NameKind.free) ∈ scope.names ∧ B.cs.lookup p.1 = some p.2) (hcl2 : ∀ x, (x, NameKind.free) ∈ scope.names → ∃ c, (x, c) ∈ cl) (hxs : ∀ x ∈ xs, (x, NameKind.local) ∈ scope.names) (hxn : xs.Nodup)
    (hn : h.Ns C mC) (f : Foreign H0 B mh C) : Rep H0 (compBlk scope sc cl C) ⟨xs.map fun x => (x, (mC x).map er), ce2, mh⟩ h := by
  obtain ⟨nd, hdb, hk, _⟩ := scOk_parts hsc
  have hlk : ∀ x c, cl.lookup x = some c → B.cs.lookup x = some c := fun x c e => (hcl _ (mem_of_lookup e)).2
  have hlk2 : ∀ x, (x, NameKind.free) ∈ scope.names → ∃ c, cl.lookup x = some c := fun x hx => by
    obtain ⟨c, hc⟩ := hcl2 x hx
    cases e : cl.lookup x with
    | some c' => exact ⟨c', rfl⟩
    | none => exact absurd (List.lookup_eq_none_iff.mp e _ hc) (by simp)
  refine { base := r.base, ns := ⟨mC, hn, ?_⟩, kinds := ?_, nodup := ?_, cells := ?_, ckinds := ?_, cnodup := ?_, capart := ?_, clive := ?_, objs := r.objs, own := ?_, exL := by simp }
  · intro p hp
    obtain ⟨x, hx, rfl⟩ := List.mem_map.mp hp
    rfl
  · intro p hp
    obtain ⟨x, hx, rfl⟩ := List.mem_map.mp hp
    refine ⟨?_, hdb _ (hxs x hx)⟩
    have := relab_lookup (sc := sc) nd _ (hxs x hx)
    simpa using this
  · show ((xs.map fun x => (x, (mC x).map er)).map (·.1)).Nodup
    rw [List.map_map]
    have : (fun x : Str × Option Val => x.1) ∘ (fun x => (x, (mC x).map er)) = id := rfl
    rw [this, List.map_id]; exact hxn
  · intro p hp
    obtain ⟨hp1, hp2⟩ := hce.mem p hp
    obtain ⟨c, v, x1, x2, x3, x4, x5, x6⟩ := r.cells p hp1
    obtain ⟨c', hc'⟩ := hlk2 p.1 hp2
    have := hlk _ _ hc'
    rw [x1] at this; cases this
    exact ⟨c, v, hc', x2, x3, x4, f.2.2.2 _ _ x1, x6⟩
  · intro p hp
    obtain ⟨hp1, hp2⟩ := hce.mem p hp
    refine ⟨?_, hdb _ hp2⟩
    have h1 := relab_lookup (sc := sc) nd _ hp2
    have h2 := (r.ckinds p hp1).1
    rw [hB] at h2
    simpa [h2] using h1
  · exact (hce.sub).nodup nd
  · intro x y c e1 e2 hc
    obtain rfl : c = C := by simpa using hc
    exact absurd rfl (f.2.2.2 _ _ (hlk _ _ e1))
  · intro x c e
    exact r.clive x c (hlk _ _ e)
  · intro b hb
    obtain rfl : b = C := by simpa using hb
    obtain ⟨o, _, _, e, _⟩ := hn
    exact ⟨f.2.1, f.1, o, e⟩

theorem Rep.fromComp {H0 : Heap} {B B2 : Blk} {lo ce : Loc} {mh : MH} {st2 : St} {h h' : Heap} {C : Addr} (r : Rep H0 B ⟨lo, ce, mh⟩ h) (f : Foreign H0 B mh C) (r2 : Rep H0 B2 st2 h') (k : Kp [C] mh st2.mh h h') : Rep H0 B ⟨lo, ce, st2.mh⟩ h' := by
  have old : ∀ b o, b ≠ C → h.get? b = some o → mh b = none → st2.mh b = none ∧ h'.get? b = some o := fun b o hb e n => k.keep b o e n (by simpa using hb)
  refine { r with base := r2.base, ns := ?_, cells := ?_, clive := ?_, objs := r2.objs, own := ?_ }
  · obtain ⟨m, ⟨o, es, ep, e, q⟩, hl⟩ := r.ns
    exact ⟨m, ⟨o, es, ep, (old _ o (fun q => f.2.2.1 (q ▸ r.exL)) e (r.own _ r.exL).1).2, q⟩, hl⟩
  · intro p hp
    obtain ⟨c, v, x1, ⟨o, x2, x2'⟩, x3, x4, x5⟩ := r.cells p hp
    have := old c o (f.2.2.2 _ _ x1) x2 x4
    exact ⟨c, v, x1, ⟨o, this.2, x2'⟩, x3, this.1, x5⟩
  · intro x c e
    obtain ⟨n, o, ho⟩ := r.clive x c e
    have := old c o (f.2.2.2 _ _ e) ho n
    exact ⟨this.1, o, this.2⟩
  · intro b hb
    obtain ⟨x, y, o, e⟩ := r.own b hb
    have := old b o (fun q => f.2.2.1 (q ▸ hb)) e x
    exact ⟨this.1, y, o, this.2⟩
theorem Kp.fromComp {ex : List Addr} {mh m m' : MH} {h0 h h' : Heap} {C : Addr} (k : Kp ex mh m h0 h) (k2 : Kp [C] m m' h h') (hC : h0.get? C = none) : Kp ex mh m' h0 h' :=
  ⟨fun b o e n l => by
    obtain ⟨n', e'⟩ := k.keep b o e n l
    exact k2.keep b o e' n' (fun q => by rw [List.mem_singleton.mp q, hC] at e; cases e), fun b mo e => by obtain ⟨_, e'⟩ := k.dom b mo e; exact k2.dom b _ e'⟩

/-- the tests of a comprehension -/
def WTests (X : Cx) (F : Fx) : List Expr → BQ → EQ → Loc → Loc → MH → Prop
  | [], Q, _, lo, ce, mh => Q true lo ce mh
  | [t], Q, E, lo, ce, mh => WT X F t Q E lo ce mh
  | _, _, _, _, _, _ => False

section
variable {prog : Program} {w : World} {A : Around} {R : Result → Shared → Prop} {s : Shared}
theorem compLoop_any {elt target iter : Expr} {ifs : List Expr} {scope : Scope} {pos : Pos} {it acc : Value} {env : Env} (I : Nat → Shared → Prop)
    (turn : ∀ n s, I n s → wpAny (model prog w) A (pyNext it) (fun r s₁ => match r with
      | none => R (.ok .next) s₁
      | some v => wpAny (model prog w) A (letOwnedTupleGo target it v) (fun _ s₁' => wpAny (model prog w) A (assign target env v) (fun _ s₂ =>
          wpAny (model prog w) A (forIn ifs true fun c r => if r = true then do let ok ← isTrue c env (eval c env); pure (ForInStep.yield ok) else pure (ForInStep.yield r)) (fun ok s₃ =>
            if ok = true then wpAny (model prog w) A (eval elt env) (fun x s₄ => wpAny (model prog w) A (call (.builtin "list.append") [acc, x]) (fun _ s₅ => ∃ m, m < n ∧ I m s₅) (fun _ _ => False) s₄) (fun _ _ => False) s₃
            else ∃ m, m < n ∧ I m s₃) (fun _ _ => False) s₂) (fun _ _ => False) s₁') (fun _ _ => False) s₁) (fun _ _ => False) s)
    (n : Nat) (h : I n s) : codeAny (model prog w) A (.compLoop (.ListComp elt [⟨target, iter, ifs, 0⟩] scope pos) 0 it acc env) R s := by
  refine codeAny_loop rfl I (fun n s hI => ?_) n h
  show wpAny _ A ((compTurn (.ListComp elt [⟨target, iter, ifs, 0⟩] scope pos) 0 it acc env).onRaise (fun x => do noteFrame x env; theTreesLotGoes x)) _ _ s
  refine wpAny_noted ?_
  rw [compTurn_list]
  refine wpAny_bind (wpAny_standAt (wpAny_bind (wpAny_mono (turn n s hI) (fun r s₁ h₁ => ?_) fun _ _ f => f.elim)))
  cases r with
  | none => exact wpAny_pure h₁
  | some v =>
    refine wpAny_bind (wpAny_mono h₁ (fun _ s₁' h₁' => ?_) fun _ _ f => f.elim)
    refine wpAny_bind (wpAny_mono h₁' (fun _ s₂ h₂ => wpAny_bind (wpAny_mono h₂ (fun ok s₃ h₃ => ?_) fun _ _ f => f.elim)) fun _ _ f => f.elim)
    cases ok with
    | false => exact wpAny_pure ⟨rfl, h₃⟩
    | true =>
      exact wpAny_bind (wpAny_bind (wpAny_mono h₃ (fun x s₄ h₄ => wpAny_bind (wpAny_mono h₄ (fun _ s₅ h₅ => wpAny_pure (wpAny_pure ⟨rfl, h₅⟩)) fun _ _ f => f.elim)) fun _ _ f => f.elim))
end
end Mine

namespace Mine
open PySem PySem.Calls PyProof.Rows PySem.W

def CompEnd (X : Cx) (F : Fx) (mh : MH) (s : Shared) (D C : Addr) (l1 c1 : Loc) (P : List Val → MH → Prop) (s5 : Shared) : Prop :=
  ∃ h5 tk5 m acc mC, s5 = { s with heap := h5, toks := tk5 } ∧ Rep X.H0 F.B ⟨l1, c1, m.set D (.list acc)⟩ h5 ∧ Kp F.B.ex mh (m.set D (.list acc)) s.heap h5 ∧ h5.Ns C mC ∧ Foreign X.H0 F.B (m.set D (.list acc)) C ∧ s.heap.get? C = none ∧ m D = none ∧ X.H0.get? D = none ∧ P acc m

/-- what a comprehension's turns are to show -/
def CompStep (X : Cx) (scope sc : Scope) (n : Nat) (xs : List Str) (target elt : Expr) (ifs : List Expr) (ys : List Yd) (ce2 : Loc) (Inv : Nat → List Val → MH → Prop) : Prop :=
  ∀ F2, Ok F2 (relab scope sc) n → ∀ i y acc m (g : Str → Option Val), ys[i]? = some y → Inv i acc m →
    AssY X F2 target y (fun l3 c3 m3 => WTests X F2 ifs (fun b l4 c4 m4 => (b = true → WE X F2 elt (fun v _ _ m5 => Inv (i + 1) (acc ++ [v]) m5 ∧ (acc ++ [v]).length ≤ sizeLine) (fun _ _ => False) l4 c4 m4) ∧ (b = false → Inv (i + 1) acc m4)) (fun _ _ => False) l3 c3 m3) (fun _ _ => False)
      (xs.map fun x => (x, g x)) ce2 m

theorem WTests.run {X : Cx} {F : Fx} {ifs : List Expr} {Q : BQ} {lo ce : Loc} {mh : MH} (h : WTests X F ifs Q (fun _ _ => False) lo ce mh) :
    W X F.A F.B (forIn ifs true fun c r => if r = true then do let ok ← isTrue c F.env (eval c F.env); pure (ForInStep.yield ok) else pure (ForInStep.yield r)) (fun b st' => Q b st'.loc st'.cel st'.mh) (fun _ _ => False) ⟨lo, ce, mh⟩ := fun s r => by
  match ifs, h with
  | [], h => exact wpAny_tests_nil (.here (tk := s.toks) r h)
  | [t], h => exact wpAny_tests_one (h s r)

theorem comp_run {X : Cx} {F : Fx} {sc scope : Scope} {n : Nat} {elt target iter : Expr} {ifs : List Expr} {pos : Pos} {mh : MH} {s : Shared} {lo ce : Loc} {h0 : Heap} {tk0 : Nat} {st0 : St} {I : Addr} {own : List Addr} {src : MH → Prop} {ys : List Yd} {At : Nat → Heap → Prop}
    {ce2 : Loc} {xs : List Str} {Inv : Nat → List Val → MH → Prop} {cl : List (Str × Addr)} {R : Addr → Addr → Result → Shared → Prop} {E' : Value → Shared → Prop}
    (ok : Ok F sc n) (hsc : scOk scope = true) (hxs : ∀ x ∈ xs, (x, NameKind.local) ∈ scope.names) (hxn : xs.Nodup)
    (r : Rep X.H0 F.B ⟨lo, ce, mh⟩ s.heap) (r0 : Rep X.H0 F.B st0 h0) (k0 : Kp F.B.ex mh st0.mh s.heap h0) (T : Itr X F.A I own src ys At) (at0 : At 0 h0)
    (ho0 : ∀ b ∈ own, s.heap.get? b = none ∧ Foreign X.H0 F.B st0.mh b ∧ ∃ o, h0.get? b = some o)
    (hce : CelOf st0.cel scope.names ce2) (hcl : ∀ p ∈ cl, (p.1, NameKind.free) ∈ scope.names ∧ F.B.cs.lookup p.1 = some p.2) (hcl2 : ∀ x, (x, NameKind.free) ∈ scope.names → ∃ c, (x, c) ∈ cl)
    (i0 : Inv 0 [] st0.mh) (isrc : ∀ i acc m, Inv i acc m → src m) (itgt : ∀ y ∈ ys, YTgt y target) (step : CompStep X scope sc n xs target elt ifs ys ce2 Inv)
    (hR : ∀ D C s5, CompEnd X F mh s D C st0.loc st0.cel (fun acc m => Inv ys.length acc m) s5 → R D C (.ok .next) s5) :
    wpAny (model X.prog X.w) F.A (newList []) (fun acc s₃ => wpAny (model X.prog X.w) F.A (newFunctionEnv scope F.env.globals cl [] F.env.qual none .none (some F.env)) (fun cenv s₄ =>
        codeAny (model X.prog X.w) F.A (.compStart (.ListComp elt [⟨target, iter, ifs, 0⟩] scope pos) 0 (.ref I) acc { cenv with scope := relabel scope F.env }) (fun res s5 => ∃ D, acc = .ref D ∧ R D cenv.locals res s5) s₄) E' s₃) E' { s with heap := h0, toks := tk0 } := by
  obtain ⟨nd, hdb, hk, _⟩ := scOk_parts hsc
  obtain ⟨e1, e2, e3, e4, e5, e6⟩ := ok.he
  have hscF : F.env.scope = sc := e1.trans ok.hsc
  have hk' : sc.kind = .function := by rw [← ok.hsc]; exact e5
  refine wpAny_newObj_type (wpAny_newFunctionEnv hce.kinds (by intro y hy; simp at hy) (fun h₁ hns hsb => ?_) hk) (by size_fits)
  dsimp only at hns hsb ⊢
  generalize hH1 : h0.push { cls := .type "list", dict := none, data := .seq ([] : List Value).toArray } = H1 at hns hsb ⊢
  have hz1 : H1.objs.size = h0.objs.size + 1 := by rw [← hH1, Heap.size_push]
  have old : ∀ b o, h0.get? b = some o → h₁.get? b = some o := fun b o e => hsb.extBut b o (Nat.ne_of_lt (by rw [hz1]; exact Nat.lt_succ_of_lt (Heap.lt_size e))) (Heap.get?_push_of_some _ (hH1 ▸ Heap.get?_push_of_some _ e))
  have hDC : h0.objs.size ≠ H1.objs.size := by rw [hz1]; exact Nat.ne_of_lt (Nat.lt_succ_self _)
  have hD1 : h₁.PlainList h0.objs.size #[] := ⟨0, hsb.extBut _ _ hDC (Heap.get?_push_of_some _ (hH1 ▸ Heap.get?_push_size _ rfl))⟩
  have hC0 : h0.get? H1.objs.size = none := by
    cases e : h0.get? H1.objs.size with
    | none => rfl
    | some o => have := Heap.lt_size e; rw [hz1] at this; exact absurd this (Nat.not_lt.mpr (Nat.le_succ _))
  have fD0 : Foreign X.H0 F.B st0.mh h0.objs.size := r0.foreign (Heap.fresh_none _)
  have fC0 : Foreign X.H0 F.B st0.mh H1.objs.size := r0.foreign hC0
  have sD : s.heap.get? h0.objs.size = none := Kp.fresh r r0 k0 (Heap.fresh_none _)
  have sC : s.heap.get? H1.objs.size = none := Kp.fresh r r0 k0 hC0
  have hDo : ∀ b ∈ own, b ≠ h0.objs.size ∧ b ≠ H1.objs.size := fun b hb => by
    obtain ⟨o, e⟩ := (ho0 b hb).2.2
    exact ⟨Nat.ne_of_lt (Heap.lt_size e), by rw [hz1]; exact Nat.ne_of_lt (Nat.lt_succ_of_lt (Heap.lt_size e))⟩
  have env_eq : ({ (newEnv scope H1.objs.size F.env.globals cl F.env.qual none .none (some F.env) F.env.builtins) with scope := relabel scope F.env } : Env) = compEnvC scope cl H1.objs.size F.env := rfl
  generalize hD : h0.objs.size = D at *
  generalize hC : H1.objs.size = C at *
  let F2 : Fx := ⟨F.A, compBlk scope sc cl C, compEnvC scope cl C F.env⟩
  have ok2 : Ok F2 (relab scope sc) n := ⟨⟨relab_eq hscF hk', rfl, rfl, e4, hk, e6⟩, rfl, ok.room, ok.top, relab_nodup nd⟩
  let J : Nat → Shared → Prop := fun k s' => ∃ h' tk' m i acc items mC, s' = { s with heap := h', toks := tk' } ∧ Rep X.H0 F.B ⟨st0.loc, st0.cel, m⟩ h' ∧ Kp F.B.ex mh m s.heap h' ∧ At i h' ∧ (∀ b ∈ own, Foreign X.H0 F.B m b) ∧ h'.PlainList D items ∧ items.toList.map er = acc ∧ acc.length ≤ sizeLine ∧
    Foreign X.H0 F.B m D ∧ h'.Ns C mC ∧ Foreign X.H0 F.B m C ∧ Inv i acc m ∧ i ≤ ys.length ∧ k = ys.length + 1 - i
  have loop : ∀ s₄ : Shared, J (ys.length + 1) s₄ → codeAny (model X.prog X.w) F.A (.compLoop (.ListComp elt [⟨target, iter, ifs, 0⟩] scope pos) 0 (.ref I) (.ref D) (compEnvC scope cl C F.env)) (fun res s5 => ∃ D', Value.ref D = .ref D' ∧ R D' C res s5) s₄ := by
    intro s₄ hJ
    refine compLoop_any J ?_ (ys.length + 1) hJ
    rintro k s' ⟨h1, tk1, m1, i, acc, items, mC, rfl, r1, k1, at1, f1, hl1, ha1, hz1, fD1, hn1, fC1, inv1, hi, rfl⟩
    have own1 : ∀ b ∈ own, m1 b = none ∧ X.H0.get? b = none := fun b hb => ⟨(f1 b hb).2.1, (f1 b hb).1⟩
    by_cases hlt : i < ys.length
    · have hy : ys[i]? = some ys[i] := List.getElem?_eq_getElem hlt
      refine wpAny_mono (T.step i ys[i] target { s with heap := h1, toks := tk1 } F.B ⟨st0.loc, st0.cel, m1⟩ (fun v s2 => wpAny (model X.prog X.w) F.A (assign target (compEnvC scope cl C F.env) v) (fun _ s₂ =>
          wpAny (model X.prog X.w) F.A (forIn ifs true fun c r => if r = true then do let ok ← isTrue c (compEnvC scope cl C F.env) (eval c (compEnvC scope cl C F.env)); pure (ForInStep.yield ok) else pure (ForInStep.yield r)) (fun ok s₃ =>
            if ok = true then wpAny (model X.prog X.w) F.A (eval elt (compEnvC scope cl C F.env)) (fun x s₄ => wpAny (model X.prog X.w) F.A (call (.builtin "list.append") [.ref D, x]) (fun _ s₅ => ∃ m, m < ys.length + 1 - i ∧ J m s₅) (fun _ _ => False) s₄) (fun _ _ => False) s₃
            else ∃ m, m < ys.length + 1 - i ∧ J m s₃) (fun _ _ => False) s₂) (fun _ _ => False) s2) (fun _ _ => False) r1 (isrc _ _ _ inv1) own1 at1 hy (itgt _ (List.getElem_mem hlt)) fun v h2 tk2 hv at2 hk2 => ?_) (fun rr s₁ p => ?_) fun _ _ p => p.elim
      · -- the item is taken
        have neC : C ∉ own := fun hb => (hDo C hb).2 rfl
        have neD : D ∉ own := fun hb => (hDo D hb).1 rfl
        have hn2 : h2.Ns C mC := by obtain ⟨o, es, ep, e, q⟩ := hn1; exact ⟨o, es, ep, hk2 C o neC e, q⟩
        have hl2 : h2.PlainList D items := hl1.at fun o e => hk2 D o neD e
        -- the outer state at h2, the yielded tuple adopted
        have ho1 : ∀ b ∈ own, s.heap.get? b = none ∧ Foreign X.H0 F.B m1 b ∧ ∃ o, h1.get? b = some o := fun b hb => ⟨(ho0 b hb).1, f1 b hb, T.live i h1 at1 b hb⟩
        have hst := step F2 ok2 i _ acc m1 (fun x => (mC x).map er) hy inv1
        obtain ⟨m2, ro2, k2, f2, fD2, fC2, hW⟩ : ∃ m2, Rep X.H0 F.B ⟨st0.loc, st0.cel, m2⟩ h2 ∧ Kp F.B.ex mh m2 s.heap h2 ∧ (∀ b ∈ own, Foreign X.H0 F.B m2 b) ∧ Foreign X.H0 F.B m2 D ∧ Foreign X.H0 F.B m2 C ∧
            W X F2.A F2.B (assign target F2.env v) (fun _ st' => WTests X F2 ifs (fun b l4 c4 m4 => (b = true → WE X F2 elt (fun v _ _ m5 => Inv (i + 1) (acc ++ [v]) m5 ∧ (acc ++ [v]).length ≤ sizeLine) (fun _ _ => False) l4 c4 m4) ∧ (b = false → Inv (i + 1) acc m4)) (fun _ _ => False) st'.loc st'.cel st'.mh) (fun _ _ => False) ⟨xs.map fun x => (x, (mC x).map er), ce2, m2⟩ := by
          have rb := r1.but hk2 fun b hb => f1 b hb
          have kb := k1.but hk2 fun b hb => (ho0 b hb).1
          cases hyy : ys[i] with
          | val x =>
            rw [hyy] at hv hst
            exact ⟨m1, rb, kb, f1, fD1, fC1, hst v hv⟩
          | tup zs =>
            rw [hyy] at hv hst
            obtain ⟨T', rfl, hT, hrel⟩ := hv
            have fT : Foreign X.H0 F.B m1 T' := r1.foreign hT
            have hne : ∀ b o, h1.get? b = some o → b ≠ T' := fun b o e q => by rw [q, hT] at e; cases e
            have fset : ∀ b, Foreign X.H0 F.B m1 b → (∃ o, h1.get? b = some o) → Foreign X.H0 F.B (m1.set T' (.tup zs)) b := fun b f ⟨o, e⟩ => ⟨f.1, by rw [MH.set_ne (hne b o e)]; exact f.2.1, f.2.2⟩
            refine ⟨m1.set T' (.tup zs), rb.adopt fT hrel, kb.adopt (Kp.fresh r r1 k1 hT), fun b hb => fset b (f1 b hb) (T.live i h1 at1 b hb), fset D fD1 ?_, fset C fC1 ?_, hst T' fT.2.1 fT.1 (.ref T') rfl⟩
            · obtain ⟨q, e⟩ := hl1; exact ⟨_, e⟩
            · obtain ⟨o, _, _, e, _⟩ := hn1; exact ⟨o, e⟩
        have ri2 : Rep X.H0 F2.B ⟨xs.map fun x => (x, (mC x).map er), ce2, m2⟩ h2 := Rep.toComp xs ro2 ok.hsc hsc hce hcl hcl2 hxs hxn hn2 fC2
        refine wpAny_mono (hW { s with heap := h2, toks := tk2 } ri2) (fun _ s3 p => ?_) fun _ _ p => by obtain ⟨_, _, _, _, _, _, f⟩ := p; exact f.elim
        obtain ⟨h3, tk3, st3, rfl, ri3, ki3, q3⟩ := p
        refine wpAny_mono (WTests.run q3 { s with heap := h3, toks := tk3 } ri3) (fun b s4 p => ?_) fun _ _ p => by obtain ⟨_, _, _, _, _, _, f⟩ := p; exact f.elim
        obtain ⟨h4, tk4, st4, rfl, ri4, ki4, q4⟩ := p
        have ki24 : Kp [C] m2 st4.mh h2 h4 := Kp.trans ki3 ki4
        -- a common end: from an inner state at h5 back to the invariant
        have back : ∀ (h5 : Heap) (tk5 : Nat) (st5 : St), Rep X.H0 F2.B st5 h5 → Kp [C] m2 st5.mh h2 h5 →
            Rep X.H0 F.B ⟨st0.loc, st0.cel, st5.mh⟩ h5 ∧ Kp F.B.ex mh st5.mh s.heap h5 ∧ At (i + 1) h5 ∧ (∀ b ∈ own, Foreign X.H0 F.B st5.mh b) ∧ h5.PlainList D items ∧ Foreign X.H0 F.B st5.mh D ∧ (∃ mC', h5.Ns C mC') ∧ Foreign X.H0 F.B st5.mh C := by
          intro h5 tk5 st5 ri5 ki5
          have stay : ∀ b o, b ≠ C → m2 b = none → h2.get? b = some o → st5.mh b = none ∧ h5.get? b = some o := fun b o hb hm e => ki5.keep b o e hm (by simpa using hb)
          have frn : ∀ b, b ≠ C → Foreign X.H0 F.B m2 b → (∃ o, h2.get? b = some o) → Foreign X.H0 F.B st5.mh b := fun b hb f ⟨o, e⟩ => ⟨f.1, (stay b o hb f.2.1 e).1, f.2.2⟩
          refine ⟨ro2.fromComp fC2 ri5 ki5, k2.fromComp ki5 sC, T.frame _ _ _ at2 fun b hb o e => (stay b o (hDo b hb).2 (f2 b hb).2.1 e).2, fun b hb => frn b (hDo b hb).2 (f2 b hb) (T.live _ _ at2 b hb), hl2.at fun o e => (stay D o hDC fD2.2.1 e).2, frn D hDC fD2 (let ⟨_, e⟩ := hl2; ⟨_, e⟩), ?_, ?_⟩
          · obtain ⟨mm, hh, _⟩ := ri5.ns; exact ⟨mm, hh⟩
          · obtain ⟨g1, g2, _⟩ := ri5.own C (List.mem_singleton.mpr rfl)
            exact ⟨g2, g1, fC2.2.2⟩
        cases b with
        | false =>
          rw [if_neg (by decide)]
          obtain ⟨b1, b2, b3, b4, b5, b6, ⟨mC', b7⟩, b8⟩ := back h4 tk4 st4 ri4 ki24
          exact ⟨ys.length + 1 - (i + 1), by omega, h4, tk4, st4.mh, i + 1, acc, items, mC', rfl, b1, b2, b3, b4, b5, ha1, hz1, b6, b7, b8, q4.2 rfl, hlt, rfl⟩
        | true =>
          rw [if_pos rfl]
          refine wpAny_mono (q4.1 rfl { s with heap := h4, toks := tk4 } ri4) (fun x s5 p => ?_) fun _ _ p => by obtain ⟨_, _, _, _, _, _, f⟩ := p; exact f.elim
          obtain ⟨h5, tk5, st5, rfl, ri5, ki5, q5, hz5⟩ := p
          obtain ⟨b1, b2, b3, b4, b5, b6, ⟨mC', b7⟩, b8⟩ := back h5 tk5 st5 ri5 (ki24.trans ki5)
          have hsz : items.size ≤ sizeLine := by
            have : items.size = acc.length := by rw [← ha1]; simp
            rw [this]; exact hz1
          refine wpAny_list_append_plain (hsz := hsz) b5 fun h6 hl6 hs6 => ?_
          have kD : ∀ b o, b ∉ [D] → h5.get? b = some o → h6.get? b = some o := fun b o hb e => (hs6.2 b (fun q => hb (List.mem_singleton.mpr q))).trans e
          refine ⟨ys.length + 1 - (i + 1), by omega, h6, tk5, st5.mh, i + 1, acc ++ [er x], items.push x, mC', rfl, b1.but kD (fun b hb => List.mem_singleton.mp hb ▸ b6), b2.but kD (fun b hb => List.mem_singleton.mp hb ▸ sD),
            T.frame _ _ _ b3 fun b hb o e => (hs6.2 b (hDo b hb).1).trans e, b4, hl6, by simp [ha1], hz5, b6, b7.sameBut hs6 (Ne.symm hDC), b8, q5, hlt, rfl⟩
      · cases rr with
        | none => exact p.elim
        | some v => exact p
    · obtain rfl : i = ys.length := by omega
      refine T.done { s with heap := h1, toks := tk1 } F.B ⟨st0.loc, st0.cel, m1⟩ _ _ r1 (isrc _ _ _ inv1) own1 at1 fun h2 tk2 hk2 => ?_
      have neC : C ∉ own := fun hb => (hDo C hb).2 rfl
      have neD : D ∉ own := fun hb => (hDo D hb).1 rfl
      have rb := r1.but hk2 fun b hb => f1 b hb
      have kb := k1.but hk2 fun b hb => (ho0 b hb).1
      have hl2 : h2.PlainList D items := hl1.at fun o e => hk2 D o neD e
      refine ⟨D, rfl, hR D C _ ⟨h2, tk2, m1, acc, mC, rfl, rb.adopt fD1 ⟨items, hl2, ha1, hz1⟩, kb.adopt sD, ?_, ?_, sC, fD1.2.1, fD1.1, inv1⟩⟩
      · obtain ⟨o, es, ep, e, q⟩ := hn1; exact ⟨o, es, ep, hk2 C o neC e, q⟩
      · exact ⟨fC1.1, by rw [MH.set_ne (Ne.symm hDC)]; exact fC1.2.1, fC1.2.2⟩
  have j0 : J (ys.length + 1) { s with heap := h₁, toks := tk0 + ([] : List (Str × Value)).length } :=
    ⟨h₁, _, st0.mh, 0, [], #[], _, rfl, r0.ext old, k0.trans (.ext old), T.frame _ _ _ at0 fun b hb o e => old b o e, fun b hb => (ho0 b hb).2.1, hD1, rfl, Nat.zero_le _, fD0, hns, fC0, i0, Nat.zero_le _, rfl⟩
  exact codeAny_compStart_list (loop _ j0) (T.self 0 _ _ _ (T.frame _ _ _ at0 fun b hb o e => old b o e) (loop _ j0))
end Mine

namespace Mine
open PySem PySem.Calls PyProof.Rows PySem.W

theorem closureFor_ok {scope : Scope} {env : Env} (h : ∀ x, (x, NameKind.free) ∈ scope.names → ∃ c, env.cells.lookup x = some c) :
    ∃ cl, closureFor scope env = pure cl ∧ (∀ p ∈ cl, (p.1, NameKind.free) ∈ scope.names ∧ env.cells.lookup p.1 = some p.2) ∧ (∀ x, (x, NameKind.free) ∈ scope.names → ∃ c, (x, c) ∈ cl) := by
  obtain ⟨cl, e, h1, h2, _⟩ := closure_ok scope.names [] h
  refine ⟨cl, ?_, fun p hp => (h1 p hp).resolve_left (by simp), h2⟩
  unfold closureFor
  show (forIn scope.names ([] : List (Str × Addr)) (fun (x : Str × NameKind) cs => match x with | (name, kind) => if (kind == NameKind.free) = true then (do let a ← cellOf env name; pure (ForInStep.yield ((name, a) :: cs))) else pure (ForInStep.yield cs)) >>= fun cs => pure cs : Sem (List (Str × Addr))) = pure cl
  have e' : (forIn scope.names ([] : List (Str × Addr)) (fun (x : Str × NameKind) cs => match x with | (name, kind) => if (kind == NameKind.free) = true then (do let a ← cellOf env name; pure (ForInStep.yield ((name, a) :: cs))) else pure (ForInStep.yield cs)) : Sem (List (Str × Addr))) = pure cl := e
  rw [e']
  rfl

/-- a comprehension's names as its block sees them -/
inductive RelabR (outer : List (Str × NameKind)) : List (Str × NameKind) → List (Str × NameKind) → Prop where
  | nil : RelabR outer [] []
  | loc {x : Str} {r r' : List (Str × NameKind)} : RelabR outer r r' → RelabR outer ((x, .local) :: r) ((x, .local) :: r')
  | glob {x : Str} {r r' : List (Str × NameKind)} : RelabR outer r r' → RelabR outer ((x, .globalImplicit) :: r) ((x, .globalImplicit) :: r')
  | free {x : Str} {r r' : List (Str × NameKind)} : (x, NameKind.cell) ∈ outer → RelabR outer r r' → RelabR outer ((x, .free) :: r) ((x, .cell) :: r')
theorem RelabR.eq {outer a b : List (Str × NameKind)} (h : RelabR outer a b) (nd : (outer.map (·.1)).Nodup) : a.map (fun (n, k) => if (k == NameKind.free && outer.lookup n == some .cell) then (n, NameKind.cell) else (n, k)) = b := by
  induction h with
  | nil => rfl
  | loc _ ih => rw [List.map_cons, ih]; rfl
  | glob _ ih => rw [List.map_cons, ih]; rfl
  | free hx _ ih =>
    rw [List.map_cons, ih]
    have := lookup_of_nodup nd _ hx
    simp only [this]
    rfl

section
variable {X : Cx} {F : Fx} {sc : Scope} {n : Nat} {E : EQ} {lo ce : Loc} {mh : MH}

abbrev CompQ (X : Cx) (sc scope : Scope) (n : Nat) (xs : List Str) (target elt : Expr) (ifs : List Expr) (Q : VQ) : YQ := fun ys src l1 c1 m1 => ∃ (ce2 : Loc) (Inv : Nat → List Val → MH → Prop), CelOf c1 scope.names ce2 ∧ Inv 0 [] m1 ∧ (∀ i acc m, Inv i acc m → src m) ∧ (∀ y ∈ ys, YTgt y target) ∧ CompStep X scope sc n xs target elt ifs ys ce2 Inv ∧
  ∀ acc m D, Inv ys.length acc m → m D = none → X.H0.get? D = none → Q (.ref D) l1 c1 (m.set D (.list acc))

theorem cells_of {ce0 : Loc} {scope : Scope} {s : Shared} (ok : Ok F sc n) (r : Rep X.H0 F.B ⟨lo, ce, mh⟩ s.heap) (hce0 : CelOf ce scope.names ce0) : ∀ x, (x, NameKind.free) ∈ scope.names → ∃ c, F.env.cells.lookup x = some c := fun x hx => by
  obtain ⟨o, ho⟩ := hce0.frees x hx
  obtain ⟨c, _, hc, _⟩ := r.cells _ ho
  exact ⟨c, by rw [ok.he.2.2.1]; exact hc⟩

theorem WE.compG {elt target iter : Expr} {ifs : List Expr} {scope : Scope} {pos : Pos} {ce0 : Loc} {Q : VQ} (xs : List Str) (ok : Ok F sc n) (hsc : scOk scope = true) (hxs : ∀ x ∈ xs, (x, NameKind.local) ∈ scope.names) (hxn : xs.Nodup) (hce0 : CelOf ce scope.names ce0)
    (h : WI X F iter (CompQ X sc scope n xs target elt ifs Q) E lo ce mh) (hs : ∀ x, foldedSetIterable iter F.env x = pure x := by intro _; rfl) : WE X F (.ListComp elt [⟨target, iter, ifs, 0⟩] scope pos) Q E lo ce mh := fun s r => by
  rw [eval_ListComp]
  obtain ⟨cl, hclos, hcl, hcl2⟩ := closureFor_ok (cells_of ok r hce0)
  obtain ⟨nd, hdb, hk, _⟩ := scOk_parts hsc
  refine wpAny_comprehension_free (g := ⟨target, iter, ifs, 0⟩) (gs := []) rfl hs hclos hk (fun p hp hl => by rw [lookup_of_nodup nd p hp, hl]) (wpAny_mono (h s r) (fun x s₁ p => wpAny_mono p (fun it s₂ g => ?_) fun _ _ p => p) fun _ _ p => p)
  obtain ⟨h0, tk0, st0, I, own, At, ys, src, rfl, rfl, r0, k0, T, at0, ho0, ce2, Inv, c1, i0, isrc, itgt, step, iend⟩ := g
  refine wpAny_mono (comp_run (tk0 := tk0) (cl := cl) (E' := Post X F.B ⟨lo, ce, mh⟩ s E) (R := fun D C res s5 => res = .ok .next ∧ CompEnd X F mh s D C st0.loc st0.cel (fun acc m => Inv ys.length acc m) s5) ok hsc hxs hxn r r0 k0 T at0 ho0 c1 (fun p hp => ⟨(hcl p hp).1, by rw [← ok.he.2.2.1]; exact (hcl p hp).2⟩) hcl2 i0 isrc itgt step (fun D C s5 e => ⟨rfl, e⟩)) (fun acc s₃ p => wpAny_mono p (fun cenv s₄ p => codeAny_mono p fun res s5 q => ?_) fun _ _ p => p) fun _ _ p => p
  obtain ⟨D, rfl, rfl, h5, tk5, m, acc, mC, rfl, r5, k5, n5, f5, sC, mD, hD, inv5⟩ := q
  refine ⟨mC, n5, fun h' hs' => ?_⟩
  have kk : ∀ b o, b ∉ [cenv.locals] → h5.get? b = some o → h'.get? b = some o := fun b o hb e => (hs'.2 b (fun q => hb (List.mem_singleton.mpr q))).trans e
  exact ⟨h', tk5, _, rfl, r5.but kk (fun b hb => List.mem_singleton.mp hb ▸ f5), k5.but kk (fun b hb => List.mem_singleton.mp hb ▸ sC), iend acc m D inv5 mD hD⟩

/-- a comprehension stored straight into a name of the frame's own -/
theorem WS.assignCompG {elt target iter : Expr} {ifs : List Expr} {scope : Scope} {cpos pos p : Pos} {x : Str} {ce0 : Loc} {Q : FQ} (xs : List Str) (ok : Ok F sc n) (hsc : scOk scope = true) (hxs : ∀ x ∈ xs, (x, NameKind.local) ∈ scope.names) (hxn : xs.Nodup) (hce0 : CelOf ce scope.names ce0)
    (h : WI X F iter (CompQ X sc scope n xs target elt ifs fun v l1 c1 m1 => StoV X F x v (fun l2 c2 m2 => Q .next l2 c2 m2) E l1 c1 m1) E lo ce mh)
    (hsw : swapsWith (.ListComp elt [⟨target, iter, ifs, 0⟩] scope cpos) (some (.Name x p)) pos.line F.env = pure true) (hs : ∀ x, foldedSetIterable iter F.env x = pure x := by intro _; rfl) :
    WS X F (.Assign [.Name x p] (.ListComp elt [⟨target, iter, ifs, 0⟩] scope cpos) pos) Q E lo ce mh := fun s r => by
  rw [exec_Assign_Name_used _ _ _ _ hsw]
  obtain ⟨cl, hclos, hcl, hcl2⟩ := closureFor_ok (cells_of ok r hce0)
  obtain ⟨nd, hdb, hk, _⟩ := scOk_parts hsc
  refine wpAny_bind (wpAny_standAt ?_)
  refine wpAny_bind (wpAny_bind ?_)
  refine wpAny_comprehension_free (g := ⟨target, iter, ifs, 0⟩) (gs := []) (use := some (PySem.assign (Expr.Name x p) F.env)) rfl hs hclos hk (fun p hp hl => by rw [lookup_of_nodup nd p hp, hl]) (wpAny_mono (h s r) (fun x s₁ p => wpAny_mono p (fun it s₂ g => ?_) fun _ _ p => p) fun _ _ p => p)
  obtain ⟨h0, tk0, st0, I, own, At, ys, src, rfl, rfl, r0, k0, T, at0, ho0, ce2, Inv, c1, i0, isrc, itgt, step, iend⟩ := g
  refine wpAny_mono (comp_run (tk0 := tk0) (cl := cl) (E' := Post X F.B ⟨lo, ce, mh⟩ s E) (R := fun D C res s5 => res = .ok .next ∧ CompEnd X F mh s D C st0.loc st0.cel (fun acc m => Inv ys.length acc m) s5) ok hsc hxs hxn r r0 k0 T at0 ho0 c1 (fun p hp => ⟨(hcl p hp).1, by rw [← ok.he.2.2.1]; exact (hcl p hp).2⟩) hcl2 i0 isrc itgt step (fun D C s5 e => ⟨rfl, e⟩)) (fun acc s₃ p => wpAny_mono p (fun cenv s₄ p => codeAny_mono p fun res s5 q => ?_) fun _ _ p => p) fun _ _ p => p
  obtain ⟨D, rfl, rfl, h5, tk5, m, acc, mC, rfl, r5, k5, n5, f5, sC, mD, hD, inv5⟩ := q
  have hst := iend acc m D inv5 mD hD (.ref D) rfl
  refine wpAny_bind (wpAny_standAt (wpAny_bindName (wpAny_mono (hst { s with heap := h5, toks := tk5 } r5) (fun _ s6 p => ?_) fun e s6 p => p.from k5)))
  obtain ⟨h6, tk6, st6, rfl, r6, k6, q6⟩ := p
  have hC6 : st6.mh cenv.locals = none ∧ ∃ o, h6.get? cenv.locals = some o ∧ ∃ m', h6.Ns cenv.locals m' := by
    obtain ⟨o, es, ep, e, q⟩ := n5
    have := k6.keep cenv.locals o e f5.2.1 f5.2.2.1
    exact ⟨this.1, o, this.2, mC, o, es, ep, this.2, q⟩
  obtain ⟨hC6, _, _, m6, n6⟩ := hC6
  refine ⟨m6, n6, fun h' hs' => wpAny_pure (wpAny_pure ?_)⟩
  have kk : ∀ b o, b ∉ [cenv.locals] → h6.get? b = some o → h'.get? b = some o := fun b o hb e => (hs'.2 b (fun q => hb (List.mem_singleton.mpr q))).trans e
  exact ⟨h', tk6, st6, rfl, r6.but kk (fun b hb => List.mem_singleton.mp hb ▸ ⟨f5.1, hC6, f5.2.2⟩), (k5.trans k6).but kk (fun b hb => List.mem_singleton.mp hb ▸ sC), q6⟩

variable {kd kd' : ScopeKind} {ns ns' ns2 : List (Str × NameKind)} {ig ic ig' ic' : Bool} {mo mo' : List (Str × Const)}
/-- the turns of a comprehension, in written scopes -/
def CompStepL (X : Cx) (kd' : ScopeKind) (ns2 : List (Str × NameKind)) (ig' ic' : Bool) (mo' : List (Str × Const)) (n : Nat) (xs : List Str) (target elt : Expr) (ifs : List Expr) (ys : List Yd) (ce2 : Loc) (Inv : Nat → List Val → MH → Prop) : Prop :=
  ∀ F2, Ok F2 ⟨kd', ns2, ig', ic', mo'⟩ n → ∀ i y acc m (g : Str → Option Val), ys[i]? = some y → Inv i acc m →
    AssY X F2 target y (fun l3 c3 m3 => WTests X F2 ifs (fun b l4 c4 m4 => (b = true → WE X F2 elt (fun v _ _ m5 => Inv (i + 1) (acc ++ [v]) m5 ∧ (acc ++ [v]).length ≤ sizeLine) (fun _ _ => False) l4 c4 m4) ∧ (b = false → Inv (i + 1) acc m4)) (fun _ _ => False) l3 c3 m3) (fun _ _ => False)
      (xs.map fun x => (x, g x)) ce2 m
def CompQL (X : Cx) (kd' : ScopeKind) (ns' ns2 : List (Str × NameKind)) (ig' ic' : Bool) (mo' : List (Str × Const)) (n : Nat) (xs : List Str) (target elt : Expr) (ifs : List Expr) (Q : VQ) : YQ := fun ys src l1 c1 m1 => ∃ (ce2 : Loc) (Inv : Nat → List Val → MH → Prop), CelOf c1 ns' ce2 ∧ Inv 0 [] m1 ∧ (∀ i acc m, Inv i acc m → src m) ∧ (∀ y ∈ ys, YTgt y target) ∧
  CompStepL X kd' ns2 ig' ic' mo' n xs target elt ifs ys ce2 Inv ∧ ∀ acc m D, Inv ys.length acc m → m D = none → X.H0.get? D = none → Q (.ref D) l1 c1 (m.set D (.list acc))
theorem WI.weak {e : Expr} {Q Q' : YQ} (h : WI X F e Q E lo ce mh) (hQ : ∀ ys src l c m, Q ys src l c m → Q' ys src l c m) : WI X F e Q' E lo ce mh := fun s r =>
  wpAny_mono (h s r) (fun x s₁ p => wpAny_mono p (fun it s₂ g => by
    obtain ⟨h', tk, st', I, own, At, ys, src, a1, a2, a3, a4, a5, a6, a7, a8⟩ := g
    exact ⟨h', tk, st', I, own, At, ys, src, a1, a2, a3, a4, a5, a6, a7, hQ _ _ _ _ _ a8⟩) fun _ _ p => p) fun _ _ p => p
theorem relab_lit (hre : RelabR ns ns' ns2) (nd : (ns.map (·.1)).Nodup) : relab ⟨kd', ns', ig', ic', mo'⟩ ⟨kd, ns, ig, ic, mo⟩ = ⟨kd', ns2, ig', ic', mo'⟩ := by
  unfold relab
  rw [← hre.eq nd]

theorem WE.comp {elt target iter : Expr} {ifs : List Expr} {pos : Pos} {ce0 : Loc} {Q : VQ} (xs : List Str) (ok : Ok F ⟨kd, ns, ig, ic, mo⟩ n) (hre : RelabR ns ns' ns2) (hce0 : CelOf ce ns' ce0) (hxs : ∀ x ∈ xs, (x, NameKind.local) ∈ ns') (hsc : scOk ⟨kd', ns', ig', ic', mo'⟩ = true) (hxn : xs.Nodup)
    (h : WI X F iter (CompQL X kd' ns' ns2 ig' ic' mo' n xs target elt ifs Q) E lo ce mh) (hs : ∀ x, foldedSetIterable iter F.env x = pure x := by intro _; rfl) : WE X F (.ListComp elt [⟨target, iter, ifs, 0⟩] ⟨kd', ns', ig', ic', mo'⟩ pos) Q E lo ce mh :=
  WE.compG xs ok hsc hxs hxn hce0 (WI.weak h fun ys src l c m ⟨ce2, Inv, a1, a2, a3, a4, a5, a6⟩ => ⟨ce2, Inv, a1, a2, a3, a4, fun F2 ok2 => a5 F2 (relab_lit hre ok.nd ▸ ok2), a6⟩) hs
theorem WS.assignComp {elt target iter : Expr} {ifs : List Expr} {cpos pos p : Pos} {x : Str} {ce0 : Loc} {Q : FQ} (xs : List Str) (ok : Ok F ⟨kd, ns, ig, ic, mo⟩ n) (hre : RelabR ns ns' ns2) (hce0 : CelOf ce ns' ce0) (hxs : ∀ x ∈ xs, (x, NameKind.local) ∈ ns') (hx : (x, NameKind.local) ∈ ns)
    (hsc : scOk ⟨kd', ns', ig', ic', mo'⟩ = true) (hxn : xs.Nodup) (hline : (p.line == cpos.line) = true) (hno : (ns'.any fun (n, k) => n == x && (k == .local || k == .cell)) = false)
    (h : WI X F iter (CompQL X kd' ns' ns2 ig' ic' mo' n xs target elt ifs fun v l1 c1 m1 => StoV X F x v (fun l2 c2 m2 => Q .next l2 c2 m2) E l1 c1 m1) E lo ce mh) (hs : ∀ x, foldedSetIterable iter F.env x = pure x := by intro _; rfl) :
    WS X F (.Assign [.Name x p] (.ListComp elt [⟨target, iter, ifs, 0⟩] ⟨kd', ns', ig', ic', mo'⟩ cpos) pos) Q E lo ce mh := by
  refine WS.assignCompG xs ok hsc hxs hxn hce0 (WI.weak h fun ys src l c m ⟨ce2, Inv, a1, a2, a3, a4, a5, a6⟩ => ⟨ce2, Inv, a1, a2, a3, a4, fun F2 ok2 => a5 F2 (relab_lit hre ok.nd ▸ ok2), a6⟩) ?_ hs
  obtain ⟨e1, e2, e3, e4, e5, e6⟩ := ok.he
  have hk : F.env.kindOf x = some .local := by
    show F.env.scope.names.lookup x = _
    rw [e1, ok.hsc]; exact lookup_of_nodup ok.nd _ hx
  have hb : F.env.blockKind = .function := by
    have : F.env.scope.kind = .function := by rw [e1]; exact e5
    unfold Env.blockKind
    simp [this]
  show pure (F.env.blockKind == .function && F.env.kindOf x == some .local && p.line == cpos.line && !(ns'.any fun (n, k) => n == x && (k == .local || k == .cell))) = pure true
  rw [hk, hb, hline, hno]
  rfl
end
end Mine

namespace Mine
open PySem PySem.Calls PyProof.Rows PySem.W

-- a def by its place in the text
def stmtAt : List Stmt → Nat → Stmt
  | s :: _, 0 => s
  | _ :: r, n + 1 => stmtAt r n
  | [], _ => .Pass default
def fnBody : Stmt → List Stmt
  | .FunctionDef _ _ b _ _ _ _ _ _ _ => b
  | _ => []
def fnScope : Stmt → Scope
  | .FunctionDef _ _ _ _ _ _ s _ _ _ => s
  | _ => default
def argNames : List Arg → List Str
  | [] => []
  | ⟨a, _, _⟩ :: r => a :: argNames r
def fnParams : Stmt → List Str
  | .FunctionDef _ ⟨_, as, _, _, _, _, _⟩ _ _ _ _ _ _ _ _ => argNames as
  | _ => []
def clsBody : Stmt → List Stmt
  | .ClassDef _ _ _ b _ _ _ _ _ _ _ => b
  | _ => []
def FnIs (H0 : Heap) (f : Addr) (st : Stmt) : Prop := ∃ fd, FnAt H0 f fd (fnBody st) (fnParams st) ∧ fd.scope = fnScope st

/-- a new frame's names: the parameters first -/
inductive InitR : List (Str × NameKind) → Loc → Loc → Prop where
  | nil : InitR [] [] []
  | loc {x : Str} {r : List (Str × NameKind)} {l c : Loc} : InitR r l c → InitR ((x, .local) :: r) ((x, none) :: l) c
  | cell {x : Str} {r : List (Str × NameKind)} {l c : Loc} : InitR r l c → InitR ((x, .cell) :: r) l ((x, none) :: c)
  | glob {x : Str} {r : List (Str × NameKind)} {l c : Loc} : InitR r l c → InitR ((x, .globalImplicit) :: r) l c
inductive InitP : List Str → List Val → List (Str × NameKind) → Loc → Loc → Prop where
  | done {ns : List (Str × NameKind)} {l c : Loc} : InitR ns l c → InitP [] [] ns l c
  | loc {x : Str} {v : Val} {ps : List Str} {vs : List Val} {r : List (Str × NameKind)} {l c : Loc} : InitP ps vs r l c → InitP (x :: ps) (v :: vs) ((x, .local) :: r) ((x, some v) :: l) c
  | cell {x : Str} {v : Val} {ps : List Str} {vs : List Val} {r : List (Str × NameKind)} {l c : Loc} : InitP ps vs r l c → InitP (x :: ps) (v :: vs) ((x, .cell) :: r) l ((x, some v) :: c)
theorem InitR.eq {ns : List (Str × NameKind)} {l c : Loc} (h : InitR ns l c) (f : Str → Option Val) (hf : ∀ p ∈ ns, f p.1 = none) :
    (ns.filter (·.2 == .local)).map (fun p => (p.1, f p.1)) = l ∧ (ns.filter (·.2 == .cell)).map (fun p => (p.1, f p.1)) = c := by
  induction h with
  | nil => exact ⟨rfl, rfl⟩
  | @loc x r l c _ ih =>
    obtain ⟨h1, h2⟩ := ih fun p hp => hf p (List.mem_cons_of_mem _ hp)
    have := hf (x, .local) List.mem_cons_self
    constructor
    · simp only [List.filter_cons, show ((x, NameKind.local).2 == NameKind.local) = true from rfl, if_true, List.map_cons, h1]
      rw [show f (x, NameKind.local).1 = none from this]
    · simp only [List.filter_cons, show ((x, NameKind.local).2 == NameKind.cell) = false from rfl, Bool.false_eq_true, if_false, h2]
  | @cell x r l c _ ih =>
    obtain ⟨h1, h2⟩ := ih fun p hp => hf p (List.mem_cons_of_mem _ hp)
    have := hf (x, .cell) List.mem_cons_self
    constructor
    · simp only [List.filter_cons, show ((x, NameKind.cell).2 == NameKind.local) = false from rfl, Bool.false_eq_true, if_false, h1]
    · simp only [List.filter_cons, show ((x, NameKind.cell).2 == NameKind.cell) = true from rfl, if_true, List.map_cons, h2]
      rw [show f (x, NameKind.cell).1 = none from this]
  | @glob x r l c _ ih =>
    obtain ⟨h1, h2⟩ := ih fun p hp => hf p (List.mem_cons_of_mem _ hp)
    constructor
    · simp only [List.filter_cons, show ((x, NameKind.globalImplicit).2 == NameKind.local) = false from rfl, Bool.false_eq_true, if_false, h1]
    · simp only [List.filter_cons, show ((x, NameKind.globalImplicit).2 == NameKind.cell) = false from rfl, Bool.false_eq_true, if_false, h2]
theorem InitP.eq {ps : List Str} {vs : List Val} {ns : List (Str × NameKind)} {l c : Loc} (h : InitP ps vs ns l c) : ∀ (f : Str → Option Val), (ns.map (·.1)).Nodup → (∀ p ∈ ns, f p.1 = (ps.zip vs).lookup p.1) →
    (ns.filter (·.2 == .local)).map (fun p => (p.1, f p.1)) = l ∧ (ns.filter (·.2 == .cell)).map (fun p => (p.1, f p.1)) = c := by
  induction h with
  | done hr => intro f nd hf; exact hr.eq f fun p hp => by rw [hf p hp]; rfl
  | @loc x v ps vs r l c _ ih =>
    intro f nd hf
    rw [List.map_cons, List.nodup_cons] at nd
    obtain ⟨h1, h2⟩ := ih f nd.2 fun p hp => by
      rw [hf p (List.mem_cons_of_mem _ hp), List.zip_cons_cons, List.lookup_cons]
      have : (p.1 == x) = false := beq_eq_false_iff_ne.mpr fun e => nd.1 (e ▸ List.mem_map_of_mem (f := (·.1)) hp)
      rw [this]
    have hx : f x = some v := by
      have := hf (x, .local) List.mem_cons_self
      rw [show (x, NameKind.local).1 = x from rfl] at this
      rw [this, List.zip_cons_cons, List.lookup_cons, beq_self_eq_true]
    constructor
    · simp only [List.filter_cons, show ((x, NameKind.local).2 == NameKind.local) = true from rfl, if_true, List.map_cons, h1]
      rw [show f (x, NameKind.local).1 = some v from hx]
    · simp only [List.filter_cons, show ((x, NameKind.local).2 == NameKind.cell) = false from rfl, Bool.false_eq_true, if_false, h2]
  | @cell x v ps vs r l c _ ih =>
    intro f nd hf
    rw [List.map_cons, List.nodup_cons] at nd
    obtain ⟨h1, h2⟩ := ih f nd.2 fun p hp => by
      rw [hf p (List.mem_cons_of_mem _ hp), List.zip_cons_cons, List.lookup_cons]
      have : (p.1 == x) = false := beq_eq_false_iff_ne.mpr fun e => nd.1 (e ▸ List.mem_map_of_mem (f := (·.1)) hp)
      rw [this]
    have hx : f x = some v := by
      have := hf (x, .cell) List.mem_cons_self
      rw [show (x, NameKind.cell).1 = x from rfl] at this
      rw [this, List.zip_cons_cons, List.lookup_cons, beq_self_eq_true]
    constructor
    · simp only [List.filter_cons, show ((x, NameKind.cell).2 == NameKind.local) = false from rfl, Bool.false_eq_true, if_false, h1]
    · simp only [List.filter_cons, show ((x, NameKind.cell).2 == NameKind.cell) = true from rfl, if_true, List.map_cons, h2]
      rw [show f (x, NameKind.cell).1 = some v from hx]
theorem InitP.len {ps : List Str} {vs : List Val} {ns : List (Str × NameKind)} {l c : Loc} (h : InitP ps vs ns l c) : vs.length = ps.length := by
  induction h with
  | done => rfl
  | loc _ ih => simp [ih]
  | cell _ ih => simp [ih]

section
variable {X : Cx} {F : Fx} {sc : Scope} {n : Nat} {E : EQ} {lo ce : Loc} {mh : MH}

/-- a call of a def of the text that does not raise -/
theorem CallV.def {f : Addr} {st : Stmt} {kd : ScopeKind} {ns : List (Str × NameKind)} {ig ic : Bool} {mo : List (Str × Const)} {b0 : Stmt} {bs : List Stmt} {ps : List Str} {vs : List Val} {lo' ce' : Loc} {Q : VQ} (D : FnIs X.H0 f st) (room : Room F.A (n + 1))
    (hsc : fnScope st = ⟨kd, ns, ig, ic, mo⟩) (hb : fnBody st = b0 :: bs) (hp : fnParams st = ps) (hi : InitP ps vs ns lo' ce')
    (h : ∀ F', Ok F' ⟨kd, ns, ig, ic, mo⟩ n → CellsOk' F' ⟨kd, ns, ig, ic, mo⟩ → WB X F' (b0 :: bs) (fun fl _ _ m => Q (retOf fl) lo ce m) (fun _ _ => False) lo' ce' mh) : CallV X F (.ref f) vs Q E lo ce mh := by
  obtain ⟨fd, D, e⟩ := D
  rw [hb, hp] at D
  rw [hsc] at e
  obtain ⟨nd, _⟩ := scOk_parts D.sc
  rw [e] at nd
  obtain ⟨h1, h2⟩ := hi.eq (fun x => (ps.zip vs).lookup x) nd fun _ _ => rfl
  refine CallV.fn (n := n) D room hi.len fun F' ok cel => ?_
  rw [e] at ok cel ⊢
  have e1 : initLoc ⟨kd, ns, ig, ic, mo⟩ ps vs = lo' := h1
  have e2 : initCel ⟨kd, ns, ig, ic, mo⟩ ps vs = ce' := h2
  rw [e1, e2]
  exact h F' ok cel
theorem KeepV.def {f : Addr} {st : Stmt} (D : FnIs X.H0 f st) : KeepV X (.ref f) := let ⟨_, D, _⟩ := D; KeepV.fn D

theorem StoV.cell' {kd : ScopeKind} {ns : List (Str × NameKind)} {ig ic : Bool} {mo : List (Str × Const)} {x : Str} {v : Val} {ce' : Loc} {Q : SQ} (ok : Ok F ⟨kd, ns, ig, ic, mo⟩ n) (cel : CellsOk' F ⟨kd, ns, ig, ic, mo⟩) (hp : Put ce x v ce') (hx : (x, NameKind.cell) ∈ ns) (h : Q lo ce' mh) : StoV X F x v Q E lo ce mh := by
  obtain ⟨c, hc⟩ := cellsFrom_lookup ns (F.B.L + 1) [] (.inl ⟨lookup_of_nodup ok.nd _ hx, ok.nd⟩)
  have hc' : F.B.cs.lookup x = some c := by rw [cel.cs]; exact hc
  exact StoV.cell ok hp hc' (by rw [cel.ex]; exact List.mem_cons_of_mem _ (List.mem_map_of_mem (f := (·.2)) (mem_of_lookup hc'))) h
end

theorem bind1 {fd : FuncData} {p : Str} (h : ∀ a, bindArgs fd ⟨[a], []⟩ = pure [(p, a)]) : ∀ raws : List Value, raws.length = [p].length → bindArgs fd ⟨raws, []⟩ = pure ([p].zip raws) := fun raws hl => by
  match raws, hl with
  | [a], _ => exact h a
theorem bind2 {fd : FuncData} {p q : Str} (h : ∀ a b, bindArgs fd ⟨[a, b], []⟩ = pure [(p, a), (q, b)]) : ∀ raws : List Value, raws.length = [p, q].length → bindArgs fd ⟨raws, []⟩ = pure ([p, q].zip raws) := fun raws hl => by
  match raws, hl with
  | [a, b], _ => exact h a b

theorem FnAt.ofK {K : Frag} {H0 : Heap} {f : Addr} {oc : Value} {od : Option Addr} {osl : Array (Option Value)} {name qual : Str} {params : Arguments} {body : List Stmt} {scope : Scope} {dV kV doc pm cdv ct : Value} {an : Option Addr} {st : Stmt} (KX : K.In H0) (hl : H0.NoLimit)
    (ho : K.lookup f = some ⟨oc, od, .func (fnOf name qual params body scope dV kV doc pm an cdv ct), osl⟩) (hb : fnBody st = body) (hs : fnScope st = scope) (hcd : codeIn K cdv qual = true) (hsc : scOk (fnScope st) = true) (hpn : (fnParams st).Nodup)
    (hk : (fnParams st).all (fun x => (fnScope st).names.lookup x == some .local || (fnScope st).names.lookup x == some .cell) = true)
    (hbind : ∀ raws : List Value, raws.length = (fnParams st).length → bindArgs (fnOf name qual params body scope dV kV doc pm an cdv ct) ⟨raws, []⟩ = pure ((fnParams st).zip raws)) : FnIs H0 f st := by
  subst hb hs
  refine ⟨fnOf name qual params _ _ dV kV doc pm an cdv ct, ⟨⟨_, KX _ _ ho, rfl⟩, rfl, codeRec_of KX hcd, hl, ⟨rfl, rfl, rfl⟩, hsc, hpn, fun x hx => ?_, hbind⟩, rfl⟩
  have := List.all_eq_true.mp hk x hx
  rcases Bool.or_eq_true_iff.mp this with q | q
  · exact .inl (by simpa using q)
  · exact .inr (by simpa using q)

theorem Glb.ofK {K : Frag} {H0 : Heap} {p : Program} {loose : List Str} {mg mb : Str → Option Value} {x : Str} {v : Value} (KX : K.In H0) (T : TopRead p loose mg mb H0) (e : nsIn K mainGlobals x = some (some v)) (hd : (x == ("__debug__" : Str)) = false) : Glb H0 x (er v) :=
  ⟨mg, mb, v, T.g, T.b, .inl (mg_of KX T.g e), rfl, hd⟩
theorem Glb.boot {K : Frag} {H0 : Heap} {p : Program} {loose : List Str} {mg mb : Str → Option Value} {x : Str} {v : Value} (KX : K.In H0) (T : TopRead p loose mg mb H0) (e : nsIn K mainGlobals x = some none) (hv : bootBuiltins x = some v) (hn : x ≠ "__name__") (hd : (x == ("__debug__" : Str)) = false) : Glb H0 x (er v) :=
  ⟨mg, mb, v, T.g, T.b, .inr ⟨mg_none_of KX T.g e, (T.builtins x hn).trans hv⟩, rfl, hd⟩
end Mine

namespace Mine
open PySem PySem.Calls PyProof.Rows PySem.W

section
variable {X : Cx} {F : Fx} {sc : Scope} {n : Nat} {E : EQ} {lo ce : Loc} {mh : MH}

theorem Post.ext {α : Type} {B : Blk} {st : St} {s : Shared} {Q : α → St → Prop} {a : α} {h' : Heap} {tk : Nat} (r : Rep X.H0 B st s.heap) (k : ∀ b o, s.heap.get? b = some o → h'.get? b = some o) (h : Q a st) : Post X B st s Q a { s with heap := h', toks := tk } :=
  ⟨h', tk, st, rfl, r.ext k, .ext k, h⟩
theorem Post.make {α : Type} {B : Blk} {st : St} {s : Shared} {Q : α → St → Prop} {a : α} {h' : Heap} {tk : Nat} {b : Addr} {mo : MObj} (r : Rep X.H0 B st s.heap) (k : ∀ b o, s.heap.get? b = some o → h'.get? b = some o) (hn : s.heap.get? b = none) (ho : ORel h' b mo)
    (h : Q a { st with mh := st.mh.set b mo }) : Post X B st s Q a { s with heap := h', toks := tk } :=
  ⟨h', tk, _, rfl, r.alloc k hn ho, Kp.alloc k mo hn, h⟩
theorem Post.turn {α : Type} {B : Blk} {st : St} {s : Shared} {Q : α → St → Prop} {a : α} {h' : Heap} {tk : Nat} {b : Addr} {mo mo' : MObj} (r : Rep X.H0 B st s.heap) (hb : st.mh b = some mo) (hs : Heap.SameBut b s.heap h') (ho : ORel h' b mo')
    (h : Q a { st with mh := st.mh.set b mo' }) : Post X B st s Q a { s with heap := h', toks := tk } :=
  ⟨h', tk, _, rfl, r.update hb hs ho, Kp.update hb hs, h⟩
theorem past_none {h : Heap} {a : Addr} (ha : h.objs.size ≤ a) : h.get? a = none := by
  cases e : h.get? a with
  | none => rfl
  | some o => exact absurd (Heap.lt_size e) (Nat.not_lt.mpr ha)


theorem CallV.lenTup {a : Addr} {xs : List Val} {Q : VQ} (la : mh a = some (.tup xs)) (h : Q (.int xs.length) lo ce mh) : CallV X F (.builtin "len") [.ref a] Q E lo ce mh := by
  intro f as hf has s r
  obtain rfl := er_builtin hf
  obtain ⟨v, rfl, hv⟩ := map_er1 has
  obtain rfl := er_ref hv
  obtain ⟨items, k, ht, eq, z⟩ := (r.objs _ _ la).1
  have hb : (items.size : Int) < 2 ^ 63 := by rw [map_er_len eq]; exact lt63 z
  refine P.len_tuple ht (by omega) (.here r ?_)
  show Q (.int (items.size : Int)) lo ce mh
  rw [map_er_len eq]; exact h

theorem LstAt.obj {B : Blk} {st : St} {h : Heap} {a : Addr} {xs : List Val} (la : LstAt X st.mh a xs) (r : Rep X.H0 B st h) : ∃ o, h.get? a = some o ∧ o.cls = .type "list" := by
  obtain ⟨items, ⟨o, e, c, _⟩, _⟩ := la.get r
  exact ⟨o, e, c⟩
theorem CallV.isiList {a : Addr} {xs : List Val} {Q : VQ} (la : LstAt X mh a xs) (h : Q (.bool true) lo ce mh) : CallV X F (.builtin "isinstance") [.ref a, .type "list"] Q E lo ce mh := by
  intro f as hf has s r
  obtain rfl := er_builtin hf
  obtain ⟨v, w, rfl, hv, hw⟩ := map_er2 has
  obtain rfl := er_ref hv
  obtain rfl := er_type hw
  obtain ⟨o, e, c⟩ := la.obj r
  exact IsiPair.list_list e c (.here (tk := s.toks) r h)
theorem CallV.isiTup {a : Addr} {xs : List Val} {Q : VQ} (la : mh a = some (.tup xs)) (h : Q (.bool true) lo ce mh) : CallV X F (.builtin "isinstance") [.ref a, .type "tuple"] Q E lo ce mh := by
  intro f as hf has s r
  obtain rfl := er_builtin hf
  obtain ⟨v, w, rfl, hv, hw⟩ := map_er2 has
  obtain rfl := er_ref hv
  obtain rfl := er_type hw
  obtain ⟨items, k, ht, eq, z⟩ := (r.objs _ _ la).1
  exact IsiPair.tuple_tuple ht rfl (.here (tk := s.toks) r h)
theorem CallV.isiInt {i : Int} {Q : VQ} (h : Q (.bool true) lo ce mh) : CallV X F (.builtin "isinstance") [.int i, .type "int"] Q E lo ce mh := by
  intro f as hf has s r
  obtain rfl := er_builtin hf
  obtain ⟨v, w, rfl, hv, hw⟩ := map_er2 has
  obtain ⟨t, rfl⟩ := er_int hv
  obtain rfl := er_type hw
  exact IsiPair.int_int (.here (tk := s.toks) r h)
theorem CallV.isiIntBool {i : Int} {Q : VQ} (h : Q (.bool false) lo ce mh) : CallV X F (.builtin "isinstance") [.int i, .type "bool"] Q E lo ce mh := by
  intro f as hf has s r
  obtain rfl := er_builtin hf
  obtain ⟨v, w, rfl, hv, hw⟩ := map_er2 has
  obtain ⟨t, rfl⟩ := er_int hv
  obtain rfl := er_type hw
  exact IsiPair.int_bool (.here r h)

-- methods of lists
theorem MethV.list {a : Addr} {xs : List Val} {name : Str} {id : String} {Q : Val → LQ} (slot : Slot "list" name id) (hty : typeOf (.builtin id) = pure (.type "method_descriptor")) (la : mh a = some (.list xs)) (h : Q (.builtin id) [.ref a] lo ce mh) :
    MethV X F (.ref a) name Q E lo ce mh := fun v pl hv s r => by
  obtain rfl := er_ref hv
  obtain ⟨items, ⟨k, ho⟩, eq, z⟩ := (r.objs _ _ la).1
  exact getMethod_builtin ⟨_, ho, rfl⟩ PySem.F.plainAttrs_list slot hty (fun b e => by cases e; exact ⟨_, ho, rfl⟩) (.here (tk := s.toks) r h)
theorem CallV.append {a : Addr} {xs : List Val} {x : Val} {Q : VQ} (la : mh a = some (.list xs)) (hz : xs.length < sizeLine) (h : Q .none lo ce (mh.set a (.list (xs ++ [x])))) : CallV X F (.builtin "list.append") [.ref a, x] Q E lo ce mh := by
  intro f as hf has s r
  obtain rfl := er_builtin hf
  obtain ⟨v, w, rfl, hv, hw⟩ := map_er2 has
  obtain rfl := er_ref hv
  obtain ⟨items, hl, eq, z⟩ := (r.objs _ _ la).1
  refine wpAny_list_append_plain hl (fun h' hl' hs => Post.turn (mo' := .list (xs ++ [x])) (tk := s.toks) r la hs ⟨_, hl', ?_, ?_⟩ h) (by rw [map_er_len eq]; exact z)
  · rw [Array.toList_push, List.map_append, eq]; simp [hw]
  · simp; omega
theorem CallV.insert {a : Addr} {xs : List Val} {x : Val} {i : Int} {Q : VQ} (la : mh a = some (.list xs)) (hi : 0 ≤ i) (hi2 : i ≤ xs.length) (hz : xs.length < sizeLine) (h : Q .none lo ce (mh.set a (.list (xs.take i.toNat ++ x :: xs.drop i.toNat)))) : CallV X F (.builtin "list.insert") [.ref a, .int i, x] Q E lo ce mh := by
  intro f as hf has s r
  obtain rfl := er_builtin hf
  obtain ⟨v, w, u, rfl, hv, hw, hu⟩ := map_er3 has
  obtain rfl := er_ref hv
  obtain ⟨t, rfl⟩ := er_int hw
  obtain ⟨items, ⟨k, ho⟩, eq, z⟩ := (r.objs _ _ la).1
  have hsz := map_er_len eq
  have hb := lt63 z
  have hf : Builtin.List.listFitsIndex i = true := by
    unfold Builtin.List.listFitsIndex
    simp; omega
  refine call_meets PySem.F.slot_list_insert ⟨_, ho, rfl⟩ PySem.F.entry_list_insert (PySem.F.args_list_insert_3 _ _ _) (PySem.AutoSeq1.list_insert_list_int_val_1 a items k i t u (by simp [hf]) (by rw [hsz]; exact z))
    ⟨ho, Post.turn (mo' := .list (xs.take i.toNat ++ x :: xs.drop i.toNat)) (tk := s.toks) r la (Heap.SameBut.update ..) ⟨_, ⟨_, PySem.IsL.update (n := k) ho _⟩, ?_, ?_⟩ h⟩
  · have h0 : ¬ i < 0 := by omega
    have h1 : min i.toNat items.size = i.toNat := by omega
    simp only [h0, if_false, h1]
    rw [Array.toList_append, Array.toList_push, Array.toList_extract, Array.toList_extract]
    simp only [List.extract_eq_take_drop, List.drop_zero, List.map_append, List.map_cons, List.map_nil, List.map_take, List.map_drop, eq, hu, List.append_assoc, List.singleton_append, Nat.sub_zero]
    rw [hsz, List.take_of_length_le (l := List.drop i.toNat xs) (by simp)]
  · simp; omega



theorem CallV.listOf {a : Addr} {xs : List Val} {Q : VQ} (la : LstAt X mh a xs) (h : ∀ c, mh c = none → X.H0.get? c = none → Q (.ref c) lo ce (mh.set c (.list xs))) : CallV X F (.type "list") [.ref a] Q E lo ce mh := by
  intro f as hf has s r
  obtain rfl := er_type hf
  obtain ⟨v, rfl, hv⟩ := map_er1 has
  obtain rfl := er_ref hv
  obtain ⟨items, hl, eq, z⟩ := la.get r
  obtain ⟨o, ho, hc, n, hd⟩ := id hl
  exact call_list_seq (hsz := by rw [map_er_len eq]; exact z) a (.inl rfl) ho hc hd fun h' c' k e => Post.make (tk := s.toks) r k (Heap.fresh_none _) (mo := .list xs) ⟨items, ⟨c', e⟩, eq, z⟩ (h _ r.fresh r.freshH0)

theorem boolsAre {vs : List Value} {bs : List Bool} (h : vs.map er = bs.map Val.bool) : LSm.BoolsAre vs bs := by
  induction vs generalizing bs with
  | nil => cases bs with
    | nil => exact .nil
    | cons => simp at h
  | cons v vs ih => cases bs with
    | nil => simp at h
    | cons b bs =>
      simp only [List.map_cons, List.cons.injEq] at h
      obtain rfl := er_bool h.1
      exact .cons _ (ih h.2)
theorem CallV.all {a : Addr} {bs : List Bool} {Q : VQ} (ok : Ok F sc n) (la : LstAt X mh a (bs.map .bool)) (h : Q (.bool (bs.all id)) lo ce mh) : CallV X F (.builtin "all") [.ref a] Q E lo ce mh := by
  intro f as hf has s r
  obtain rfl := er_builtin hf
  obtain ⟨v, rfl, hv⟩ := map_er1 has
  obtain rfl := er_ref hv
  obtain ⟨items, hl, eq, z⟩ := la.get r
  have hb := boolsAre eq
  have hlt : a < s.heap.objs.size := by obtain ⟨_, e, _⟩ := hl; exact Heap.lt_size e
  refine call_all_walk (wpAny_pyIter_list hl ?_)
  refine ⟨s.heap.objs.size, [s.heap.objs.size, a], [s.heap.objs.size], items.size, _, _, fun i => (bs[i]?).getD true, rfl, Walks.list (A := F.A.in1) ok.room.hh _ a (Nat.ne_of_lt hlt) items,
    ⟨⟨_, Heap.get?_push_size _ rfl, rfl, rfl⟩, hl.push _⟩, fun i v s' Q' E' hP hQ => ?_, fun h' tk hk => ?_⟩
  · obtain ⟨b, e, rfl⟩ := hb.get i v (by simpa using hP)
    simp only [e, Option.getD_some] at hQ
    exact wpAny_truthy_bool hQ
  · have e : ((List.range items.size).all fun i => (bs[i]?).getD true) = bs.all id := by
      have : items.size = bs.length := by rw [map_er_len eq, List.length_map]
      rw [this]; exact LSm.range_all bs
    rw [e]
    exact Post.ext r (fun b x e => hk b x (fun hm => by rw [List.mem_singleton.mp hm] at e; exact Nat.lt_irrefl _ (Heap.lt_size e)) (Heap.get?_push_of_some _ e)) h

theorem intsAre {vs : List Value} {bs : List Int} (h : vs.map er = bs.map Val.int) : IntsAre vs bs := by
  induction vs generalizing bs with
  | nil => cases bs with
    | nil => exact .nil
    | cons => simp at h
  | cons v vs ih => cases bs with
    | nil => simp at h
    | cons b bs =>
      simp only [List.map_cons, List.cons.injEq] at h
      obtain ⟨t, rfl⟩ := er_int h.1
      exact .cons _ _ (ih h.2)
theorem er_ints {vs : List Value} {bs : List Int} (h : IntsAre vs bs) : vs.map er = bs.map Val.int := by
  induction h with
  | nil => rfl
  | cons n t _ ih => simp [er, ih]
end
end Mine

namespace Mine
open PySem PySem.Calls PyProof.Rows PySem.W

-- zip over two tuples
section
variable {prog : Program} {w : World} {A : Around} {E : Value → Shared → Prop} {s : Shared}

theorem tupNext {it t : Addr} {i : Nat} {items : Array Value} {x : Value} {Q : Value → Shared → Prop} (hit : s.heap.IsTupleIter it t i) (ht : s.heap.IsTuple t items) (hx : items[i]? = some x)
    (hQ : ∀ h', h'.IsTupleIter it t (i + 1) → Heap.SameBut it s.heap h' → Q x { s with heap := h' }) : wpAny (model prog w) A (Builtin.SmallTypes.nextOf (.ref it)) Q E s := by
  obtain ⟨o, ho, hc, hd⟩ := id hit
  obtain ⟨ol, hol, _, nl, hdl⟩ := ht
  unfold Builtin.SmallTypes.nextOf
  refine wpAny_bind (wpAny_callSpecial?_slot (name := Str.ofString "__next__") hit.typeIs F.slot_tuple_iterator_next (wpAny_call_entry F.slot_tuple_iterator_next hit.typeIs F.entry_tuple_iterator_next ?_ (F.args_tuple_iterator_next_1 _)))
  show wpAny _ _ (field (.ref it) 0 >>= _) _ _ s
  refine wpAny_bind (wpAny_field ho hd (x := .ref t) rfl ?_)
  show wpAny _ _ (if (Value.ref t == Value.none) = true then _ else _) _ _ s
  rw [if_neg (show ¬ ((Value.ref t == Value.none) = true) from Bool.false_ne_true)]
  show wpAny _ _ (field (.ref it) 1 >>= _) _ _ s
  refine wpAny_bind (wpAny_field ho hd (x := .int i 0) rfl ?_)
  show wpAny _ _ (seqItems? (.ref t) >>= _) _ _ s
  refine wpAny_bind (wpAny_seqItems hol hdl ?_)
  simp only [Int.toNat_natCast, hx]
  refine wpAny_bind (wpAny_setField ho hd (by simp) (wpAny_pure ⟨x, rfl, wpAny_pure (hQ _ ?_ (Heap.SameBut.update ..))⟩))
  exact ⟨_, Heap.get?_update_self _ ho (Obj.isFreed_of_fields (Obj.data_mapFields hd _)), (Obj.cls_mapFields ..).trans hc, by rw [Obj.data_mapFields hd]; simp [rawInt]⟩

theorem tupEnd {it t : Addr} {i : Nat} {items : Array Value} {Q : Value → Shared → Prop} (hh : A.handled = none) (hit : s.heap.IsTupleIter it t i) (ht : s.heap.IsTuple t items) (hx : items[i]? = none)
    (hE : ∀ h' e, Heap.ExtBut it s.heap h' → (∃ o, h'.get? e = some o ∧ o.cls = .type "StopIteration") → E (.ref e) { s with heap := h' }) :
    wpAny (model prog w) A (Builtin.SmallTypes.nextOf (.ref it)) Q E s := by
  obtain ⟨o, ho, hc, hd⟩ := id hit
  obtain ⟨ol, hol, _, nl, hdl⟩ := ht
  unfold Builtin.SmallTypes.nextOf
  refine wpAny_bind (wpAny_callSpecial?_slot (name := Str.ofString "__next__") hit.typeIs F.slot_tuple_iterator_next (wpAny_call_entry F.slot_tuple_iterator_next hit.typeIs F.entry_tuple_iterator_next ?_ (F.args_tuple_iterator_next_1 _)))
  show wpAny _ _ (field (.ref it) 0 >>= _) _ _ s
  refine wpAny_bind (wpAny_field ho hd (x := .ref t) rfl ?_)
  show wpAny _ _ (if (Value.ref t == Value.none) = true then _ else _) _ _ s
  rw [if_neg (show ¬ ((Value.ref t == Value.none) = true) from Bool.false_ne_true)]
  show wpAny _ _ (field (.ref it) 1 >>= _) _ _ s
  refine wpAny_bind (wpAny_field ho hd (x := .int i 0) rfl ?_)
  show wpAny _ _ (seqItems? (.ref t) >>= _) _ _ s
  refine wpAny_bind (wpAny_seqItems hol hdl ?_)
  simp only [Int.toNat_natCast, hx]
  refine wpAny_bind (wpAny_rule (wpAny_bind (wpAny_setField ho hd (by simp) ?_)))
  show wpAny _ _ (newExc (.type "StopIteration") [] >>= _) _ _ _
  refine wpAny_bind ?_
  simp only [newExc, newTuple]
  refine wpAny_bind (wpAny_newObj_type ?_ (by size_fits))
  refine wpAny_bind (m := firstArgMember _ _) (wpAny_of_eq (a := Value.none) (by first | rfl | (simp only [firstArgMember]; rfl)) ?_)
  refine wpAny_newObj_type ?_ (by size_fits)
  simp only [raiseNew]
  refine wpAny_bind (wpAny_handled ?_)
  first | rw [show A.in1.handled = none from hh] | rw [hh]
  refine wpAny_bind (wpAny_pure (wpAny_throw ?_))
  exact hE _ _ (((Heap.SameBut.update ..).extBut.push _).push _) ⟨_, Heap.get?_push_size _ rfl, rfl⟩

theorem zipT_item {z TI TO i1 i2 l1 l2 : Addr} {k1 k2 : Nat} {xs ys : Array Value} {x y a b : Value} {Q : Option Value → Shared → Prop} (D : ZipApart z TI TO i1 i2 l1 l2)
    (hz : IsZip s.heap z TI TO .none) (hTI : IsPair s.heap TI (.ref i1) (.ref i2)) (hTO : IsPair s.heap TO a b)
    (h1 : s.heap.IsTupleIter i1 l1 k1) (h2 : s.heap.IsTupleIter i2 l2 k2) (hl1 : s.heap.IsTuple l1 xs) (hl2 : s.heap.IsTuple l2 ys) (hx : xs[k1]? = some x) (hy : ys[k2]? = some y)
    (hQ : ∀ h', IsZip h' z TI TO (rawInt s.heap.objs.size) → IsPair h' TO x y → h'.IsTupleIter i1 l1 (k1 + 1) → h'.IsTupleIter i2 l2 (k2 + 1) → IsPair h' s.heap.objs.size x y →
      (∀ c o, c ≠ z → c ≠ TO → c ≠ i1 → c ≠ i2 → s.heap.get? c = some o → h'.get? c = some o) → Q (some (.ref s.heap.objs.size)) { s with heap := h' }) :
    wpAny (model prog w) A (pyNext (.ref z)) Q E s := by
  have hT : s.TypeIs (.ref z) "zip" := ⟨_, hz, rfl⟩
  unfold pyNext
  refine wpAny_bind (wpAny_attempt (wpAny_callSpecial?_slot (name := Str.ofString "__next__") hT F.slot_zip_next (wpAny_call_entry F.slot_zip_next hT F.entry_zip_next ?_ (F.args_zip_next_1 _))))
  show wpAny _ _ (field (.ref z) 2 >>= _) _ _ _
  refine wpAny_bind (wpAny_field hz rfl (x := .bool false) rfl ?_)
  show wpAny _ _ (field (.ref z) 3 >>= _) _ _ _
  refine wpAny_bind (wpAny_field hz rfl (x := .ref TI) rfl ?_)
  refine wpAny_bind (wpAny_seqItems hTI rfl ?_)
  show wpAny _ _ (Builtin.SmallTypes.ownedTupleIsFree (.ref z) >>= _) _ _ _
  refine wpAny_bind ?_
  unfold Builtin.SmallTypes.ownedTupleIsFree
  refine wpAny_bind (wpAny_field hz rfl (x := .none) rfl (wpAny_pure ?_))
  simp only [if_true]
  refine wpAny_bind (wpAny_rule ?_)
  refine wpAny_bind (wpAny_field hz rfl (x := .ref TO) rfl ?_)
  refine wpAny_bind (wpAny_setField_rec hz (by simp) fun ha hza hsa => ?_)
  replace hza : IsZip ha z TI TO .ellipsis := hza
  refine wpAny_bind ?_
  simp only [List.zipIdx_cons, List.zipIdx_nil, List.forIn_cons, List.forIn_nil]
  refine wpAny_bind (wpAny_bind (wpAny_onRaise ?_))
  show wpAny _ _ (Builtin.SmallTypes.nextOf (.ref i1) >>= _) _ _ _
  refine wpAny_bind (tupNext (h1.extBut hsa.extBut D.i1z) (hl1.extBut hsa.extBut D.l1z) hx fun hb h1b hsb => wpAny_pure ?_)
  have hTOb : IsPair hb TO a b := hsb.extBut _ _ D.TOi1 (hsa.extBut _ _ D.TOz hTO)
  refine wpAny_bind (wpAny_seqItems hTOb rfl ?_)
  refine wpAny_bind (wpAny_updateSeq_pair hTOb fun hc hTOc hsc => ?_)
  replace hTOc : IsPair hc TO x b := hTOc
  refine wpAny_bind (wpAny_letGo (wpAny_pure ?_))
  refine wpAny_bind (wpAny_bind (wpAny_onRaise ?_))
  show wpAny _ _ (Builtin.SmallTypes.nextOf (.ref i2) >>= _) _ _ _
  refine wpAny_bind (tupNext (((h2.extBut hsa.extBut D.i2z).extBut hsb.extBut D.i12.symm).extBut hsc.extBut D.TOi2.symm) (((hl2.extBut hsa.extBut D.l2z).extBut hsb.extBut D.l2i1).extBut hsc.extBut D.l2TO) hy fun hd h2d hsd => wpAny_pure ?_)
  have hTOd : IsPair hd TO x b := hsd.extBut _ _ D.TOi2 hTOc
  refine wpAny_bind (wpAny_seqItems hTOd rfl ?_)
  refine wpAny_bind (wpAny_updateSeq_pair hTOd fun he hTOe hse => ?_)
  replace hTOe : IsPair he TO x y := hTOe
  refine wpAny_bind (wpAny_letGo (wpAny_pure (wpAny_pure ?_)))
  refine wpAny_bind (wpAny_seqItems hTOe rfl ?_)
  refine wpAny_bind (wpAny_newTuple ?_)
  have hsz : he.objs.size = s.heap.objs.size := by rw [hse.1, hsd.1, hsc.1, hsb.1, hsa.1]
  have hze : IsZip he z TI TO .ellipsis := hse.extBut _ _ D.TOz.symm (hsd.extBut _ _ D.i2z.symm (hsc.extBut _ _ D.TOz.symm (hsb.extBut _ _ D.i1z.symm hza)))
  have h1e : he.IsTupleIter i1 l1 (k1 + 1) := ((h1b.extBut hsc.extBut D.TOi1.symm).extBut hsd.extBut D.i12).extBut hse.extBut D.TOi1.symm
  have h2e : he.IsTupleIter i2 l2 (k2 + 1) := h2d.extBut hse.extBut D.TOi2.symm
  have hzlt : z < he.objs.size := Heap.lt_size hze
  show wpAny _ _ (Builtin.SmallTypes.ownedTupleHandOut (.ref z) (.ref he.objs.size) >>= _) _ _ _
  refine wpAny_bind ?_
  unfold Builtin.SmallTypes.ownedTupleHandOut
  have hzf : IsZip (he.push { cls := .type "tuple", data := .seq #[x, y] }) z TI TO .ellipsis := Heap.get?_push_of_some _ hze
  refine wpAny_bind (wpAny_setField_rec hzf (by simp) fun hg hzg hsg => ?_)
  replace hzg : IsZip hg z TI TO (rawInt he.objs.size) := hzg
  refine wpAny_setField_rec hzg (by simp) fun hi hzi hsi => ?_
  replace hzi : IsZip hi z TI TO (rawInt he.objs.size) := hzi
  have up : ∀ c o, c ≠ z → he.get? c = some o → hi.get? c = some o := fun c o c1 e => hsi.extBut _ _ c1 (hsg.extBut _ _ c1 (Heap.get?_push_of_some _ e))
  have hTi : IsPair hi he.objs.size x y := hsi.extBut _ _ (Nat.ne_of_gt hzlt) (hsg.extBut _ _ (Nat.ne_of_gt hzlt) (Heap.get?_push_size _ rfl))
  rw [hsz] at hzi hTi
  refine wpAny_pure ⟨_, rfl, wpAny_pure ?_⟩
  show Q (some (.ref he.objs.size)) _
  rw [hsz]
  exact hQ hi hzi (up _ _ D.TOz hTOe) (h1e.extBut (fun c o cn e => up c o cn e) D.i1z) (h2e.extBut (fun c o cn e => up c o cn e) D.i2z) hTi fun c o c1 c2 c3 c4 e => up c o c1 (hse.extBut _ _ c2 (hsd.extBut _ _ c4 (hsc.extBut _ _ c2 (hsb.extBut _ _ c3 (hsa.extBut _ _ c1 e)))))

theorem zipT_end {z TI TO i1 i2 l1 l2 : Addr} {k1 k2 : Nat} {xs ys : Array Value} {a b : Value} {Q : Option Value → Shared → Prop} (hh : A.handled = none) (D : ZipApart z TI TO i1 i2 l1 l2)
    (hz : IsZip s.heap z TI TO .none) (hTI : IsPair s.heap TI (.ref i1) (.ref i2)) (hTO : IsPair s.heap TO a b)
    (h1 : s.heap.IsTupleIter i1 l1 k1) (h2 : s.heap.IsTupleIter i2 l2 k2) (hl1 : s.heap.IsTuple l1 xs) (hl2 : s.heap.IsTuple l2 ys) (hend : xs[k1]? = none ∨ ys[k2]? = none)
    (hQ : ∀ h', (∀ c o, c ≠ z → c ≠ TO → c ≠ i1 → c ≠ i2 → s.heap.get? c = some o → h'.get? c = some o) → Q none { s with heap := h' }) : wpAny (model prog w) A (pyNext (.ref z)) Q E s := by
  have hT : s.TypeIs (.ref z) "zip" := ⟨_, hz, rfl⟩
  unfold pyNext
  have stop : ∀ h' e, (∀ c o, c ≠ z → c ≠ TO → c ≠ i1 → c ≠ i2 → s.heap.get? c = some o → h'.get? c = some o) → (∃ o, h'.get? e = some o ∧ o.cls = .type "StopIteration") → wpAny (model prog w) A (do if (← isInstance (.ref e) (.type "StopIteration")) = true then pure none else throw (.ref e)) Q E { s with heap := h' } := fun h' e hk he => by
    obtain ⟨o, ho, hc⟩ := he
    refine wpAny_bind (wpAny_isInstance (T := "StopIteration") (b := true) ⟨o, ho, hc⟩ isSubtype_stop ?_)
    exact wpAny_pure (hQ _ hk)
  refine wpAny_bind (wpAny_attempt (wpAny_callSpecial?_slot (name := Str.ofString "__next__") hT F.slot_zip_next (wpAny_call_entry F.slot_zip_next hT F.entry_zip_next ?_ (F.args_zip_next_1 _))))
  show wpAny _ _ (field (.ref z) 2 >>= _) _ _ _
  refine wpAny_bind (wpAny_field hz rfl (x := .bool false) rfl ?_)
  show wpAny _ _ (field (.ref z) 3 >>= _) _ _ _
  refine wpAny_bind (wpAny_field hz rfl (x := .ref TI) rfl ?_)
  refine wpAny_bind (wpAny_seqItems hTI rfl ?_)
  show wpAny _ _ (Builtin.SmallTypes.ownedTupleIsFree (.ref z) >>= _) _ _ _
  refine wpAny_bind ?_
  unfold Builtin.SmallTypes.ownedTupleIsFree
  refine wpAny_bind (wpAny_field hz rfl (x := .none) rfl (wpAny_pure ?_))
  simp only [if_true]
  refine wpAny_bind (wpAny_rule ?_)
  refine wpAny_bind (wpAny_field hz rfl (x := .ref TO) rfl ?_)
  refine wpAny_bind (wpAny_setField_rec hz (by simp) fun ha hza hsa => ?_)
  replace hza : IsZip ha z TI TO .ellipsis := hza
  refine wpAny_bind ?_
  simp only [List.zipIdx_cons, List.zipIdx_nil, List.forIn_cons, List.forIn_nil]
  refine wpAny_bind (wpAny_bind (wpAny_onRaise ?_))
  show wpAny _ _ (Builtin.SmallTypes.nextOf (.ref i1) >>= _) _ _ _
  cases hx : xs[k1]? with
  | none =>
    refine wpAny_bind (tupEnd hh (h1.extBut hsa.extBut D.i1z) (hl1.extBut hsa.extBut D.l1z) hx fun hb e hsb he => ?_)
    obtain ⟨oe, hoe, hce⟩ := he
    have hzb : IsZip hb z TI TO .ellipsis := hsb _ _ D.i1z.symm hza
    have hez : e ≠ z := fun x => by subst x; rw [hzb] at hoe; cases hoe; simp at hce
    exact wpAny_setField_rec hzb (by simp) fun hc _ hsc => stop hc e (fun c o c1 _ c3 _ x => hsc.extBut _ _ c1 (hsb _ _ c3 (hsa.extBut _ _ c1 x))) ⟨oe, hsc.extBut _ _ hez hoe, hce⟩
  | some x =>
    have hy : ys[k2]? = none := by rcases hend with h | h; rw [hx] at h; cases h; exact h
    refine wpAny_bind (tupNext (h1.extBut hsa.extBut D.i1z) (hl1.extBut hsa.extBut D.l1z) hx fun hb h1b hsb => wpAny_pure ?_)
    have hTOb : IsPair hb TO a b := hsb.extBut _ _ D.TOi1 (hsa.extBut _ _ D.TOz hTO)
    refine wpAny_bind (wpAny_seqItems hTOb rfl ?_)
    refine wpAny_bind (wpAny_updateSeq_pair hTOb fun hc hTOc hsc => ?_)
    refine wpAny_bind (wpAny_letGo (wpAny_pure ?_))
    refine wpAny_bind (wpAny_bind (wpAny_onRaise ?_))
    show wpAny _ _ (Builtin.SmallTypes.nextOf (.ref i2) >>= _) _ _ _
    refine wpAny_bind (tupEnd hh (((h2.extBut hsa.extBut D.i2z).extBut hsb.extBut D.i12.symm).extBut hsc.extBut D.TOi2.symm) (((hl2.extBut hsa.extBut D.l2z).extBut hsb.extBut D.l2i1).extBut hsc.extBut D.l2TO) hy fun hd e hsd he => ?_)
    obtain ⟨oe, hoe, hce⟩ := he
    have hzd : IsZip hd z TI TO .ellipsis := hsd _ _ D.i2z.symm (hsc.extBut _ _ D.TOz.symm (hsb.extBut _ _ D.i1z.symm hza))
    have hez : e ≠ z := fun x => by subst x; rw [hzd] at hoe; cases hoe; simp at hce
    exact wpAny_setField_rec hzd (by simp) fun hf _ hsf => stop hf e (fun c o c1 c2 c3 c4 x => hsf.extBut _ _ c1 (hsd _ _ c4 (hsc.extBut _ _ c2 (hsb.extBut _ _ c3 (hsa.extBut _ _ c1 x))))) ⟨oe, hsf.extBut _ _ hez hoe, hce⟩

abbrev zt1 (h : Heap) (l1 : Addr) : Heap := h.push { cls := .type "tuple_iterator", data := .fields #[.ref l1, .int 0 0] }
abbrev zt2 (h : Heap) (l1 l2 : Addr) : Heap := (zt1 h l1).push { cls := .type "tuple_iterator", data := .fields #[.ref l2, .int 0 0] }
abbrev zt3 (h : Heap) (l1 l2 : Addr) : Heap := (zt2 h l1 l2).push { cls := .type "tuple", data := .seq #[.ref h.objs.size, .ref (zt1 h l1).objs.size] }
abbrev zt4 (h : Heap) (l1 l2 : Addr) : Heap := (zt3 h l1 l2).push { cls := .type "tuple", data := .seq #[.none, .none] }
abbrev zt5 (h : Heap) (l1 l2 : Addr) : Heap := (zt4 h l1 l2).push { cls := .type "zip", data := .fields #[.none, .bool false, .bool false, .ref (zt2 h l1 l2).objs.size, .ref (zt3 h l1 l2).objs.size] }
theorem zipT_new (l1 l2 : Addr) (xs ys : Array Value) :
    Meets (Builtin.«zip.__new__» ⟨[.type "zip", .ref l1, .ref l2], []⟩) (fun _ R s => s.heap.IsTuple l1 xs ∧ s.heap.IsTuple l2 ys ∧ R (.ok (.ret (.ref (zt4 s.heap l1 l2).objs.size))) { s with heap := zt5 s.heap l1 l2 }) :=
  .of_wp fun prog w A R s h => by
    obtain ⟨hp, g, d, tk, os⟩ := s; obtain ⟨hl1, hl2, h⟩ := h
    have hsub := sub_zip
    have hL1 : Heap.IsTuple (Shared.heap ⟨hp, g, d, tk, os⟩) l1 xs := hl1
    have hL2 : Heap.IsTuple (Shared.heap ⟨hp.push { cls := .type "tuple_iterator", data := .fields #[.ref l1, .int 0 0] }, g, d, tk, os⟩) l2 ys := Heap.IsTuple.push hl2 _
    wp_walk using wpAny_pyIter_tuple hL1, wpAny_pyIter_tuple hL2
    exact ⟨_, rfl, h⟩
theorem call_zipT {l1 l2 : Addr} {xs ys : Array Value} {Q : Value → Shared → Prop} (hl1 : s.heap.IsTuple l1 xs) (hl2 : s.heap.IsTuple l2 ys)
    (h : ∀ h', IsZip h' (s.heap.objs.size + 4) (s.heap.objs.size + 2) (s.heap.objs.size + 3) .none → IsPair h' (s.heap.objs.size + 2) (.ref s.heap.objs.size) (.ref (s.heap.objs.size + 1)) →
      IsPair h' (s.heap.objs.size + 3) .none .none → h'.IsTupleIter s.heap.objs.size l1 0 → h'.IsTupleIter (s.heap.objs.size + 1) l2 0 →
      (∀ c o, s.heap.get? c = some o → h'.get? c = some o) → Q (.ref (s.heap.objs.size + 4)) { s with heap := h' }) :
    wpAny (model prog w) A (call (.type "zip") [.ref l1, .ref l2]) Q E s := by
  refine callType_new F.called_zip (by decide) (F.typeCall_zip_2 _ _) (F.newCall_zip_2 _ _) (fun obj => F.args_object_init_3 obj _ _) F.entry_zip_new (zipT_new l1 l2 xs ys) ⟨hl1, hl2, ?_⟩
  have z1 : (zt1 s.heap l1).objs.size = s.heap.objs.size + 1 := Heap.size_push ..
  have z2 : (zt2 s.heap l1 l2).objs.size = s.heap.objs.size + 2 := by rw [Heap.size_push, z1]
  have z3 : (zt3 s.heap l1 l2).objs.size = s.heap.objs.size + 3 := by rw [Heap.size_push, z2]
  have z4 : (zt4 s.heap l1 l2).objs.size = s.heap.objs.size + 4 := by rw [Heap.size_push, z3]
  have g5 : (zt5 s.heap l1 l2).get? (zt4 s.heap l1 l2).objs.size = some _ := Heap.get?_push_size _ rfl
  have g4 : (zt5 s.heap l1 l2).get? (zt3 s.heap l1 l2).objs.size = some _ := Heap.get?_push_of_some _ (Heap.get?_push_size _ rfl)
  have g3 : (zt5 s.heap l1 l2).get? (zt2 s.heap l1 l2).objs.size = some _ := Heap.get?_push_of_some _ (Heap.get?_push_of_some _ (Heap.get?_push_size _ rfl))
  have g2 : (zt5 s.heap l1 l2).get? (zt1 s.heap l1).objs.size = some _ := Heap.get?_push_of_some _ (Heap.get?_push_of_some _ (Heap.get?_push_of_some _ (Heap.get?_push_size _ rfl)))
  have g1 : (zt5 s.heap l1 l2).get? s.heap.objs.size = some _ := Heap.get?_push_of_some _ (Heap.get?_push_of_some _ (Heap.get?_push_of_some _ (Heap.get?_push_of_some _ (Heap.get?_push_size _ rfl))))
  show _ ∧ _
  rw [z2, z3, z4] at g5
  rw [z1, z2] at g3
  rw [z3] at g4
  rw [z1] at g2
  rw [z4]
  exact ⟨⟨_, g5, rfl⟩, h _ g5 g3 g4 ⟨_, g1, rfl, rfl⟩ ⟨_, g2, rfl, rfl⟩ fun c o x => Heap.get?_push_of_some _ (Heap.get?_push_of_some _ (Heap.get?_push_of_some _ (Heap.get?_push_of_some _ (Heap.get?_push_of_some _ x))))⟩
end

theorem Itr.zipT {X : Cx} {A : Around} (hh : A.handled = none) {z TI TO i1 i2 l1 l2 : Addr} {xs ys : List Val} (D : ZipApart z TI TO i1 i2 l1 l2) :
    Itr X A z [z, TI, TO, i1, i2] (fun mh => mh l1 = some (.tup xs) ∧ mh l2 = some (.tup ys)) (zipYs xs ys) (fun i h => IsZip h z TI TO .none ∧ IsPair h TI (.ref i1) (.ref i2) ∧ (∃ a b, IsPair h TO a b) ∧ h.IsTupleIter i1 l1 i ∧ h.IsTupleIter i2 l2 i) where
  frame := fun i h h' st hk => by
    obtain ⟨hz, hTI, ⟨a, b, hTO⟩, ⟨o1, h1, r1⟩, ⟨o2, h2, r2⟩⟩ := st
    exact ⟨hk z (by simp) _ hz, hk TI (by simp) _ hTI, ⟨a, b, hk TO (by simp) _ hTO⟩, ⟨o1, hk i1 (by simp) _ h1, r1⟩, ⟨o2, hk i2 (by simp) _ h2, r2⟩⟩
  live := fun i h st c hc => by
    obtain ⟨hz, hTI, ⟨a, b, hTO⟩, ⟨o1, h1, _⟩, ⟨o2, h2, _⟩⟩ := st
    simp only [List.mem_cons, List.not_mem_nil, or_false] at hc
    rcases hc with rfl | rfl | rfl | rfl | rfl
    · exact ⟨_, hz⟩
    · exact ⟨_, hTI⟩
    · exact ⟨_, hTO⟩
    · exact ⟨_, h1⟩
    · exact ⟨_, h2⟩
  step := fun i y target s B st Q E r src own at_ hy ht hQ => by
    obtain ⟨x, y, hx, hy2, rfl⟩ := zipYs_get.mp hy
    obtain ⟨its1, hl1, eq1, z1⟩ := r.tup (X := X) src.1
    obtain ⟨its2, hl2, eq2, z2⟩ := r.tup (X := X) src.2
    obtain ⟨v1, hv1, ev1⟩ := map_er_get eq1 hx
    obtain ⟨v2, hv2, ev2⟩ := map_er_get eq2 hy2
    obtain ⟨es, k, p, rfl⟩ := ht
    obtain ⟨hz, hTI, ⟨a, b, hTO⟩, h1, h2⟩ := at_
    refine zipT_item D hz hTI hTO h1 h2 hl1 hl2 hv1 hv2 fun h' a1 a2 a3 a4 a5 hk => ?_
    refine wpAny_letOwnedTupleGo_zip a1 fun h'' hz'' hs'' => ?_
    have neT : s.heap.objs.size ≠ z := Nat.ne_of_gt (Heap.lt_size hz)
    refine hQ (.ref s.heap.objs.size) h'' _ ⟨_, rfl, Heap.fresh_none _, ⟨_, _, (hs''.2 _ neT).trans a5, by rw [show (#[v1, v2] : Array Value).toList = [v1, v2] from rfl, List.map_cons, List.map_cons, List.map_nil, ev1, ev2], by show 2 ≤ sizeLine; decide⟩⟩
      ⟨hz'', (hs''.2 _ D.TIz).trans (hk _ _ D.TIz D.TITO D.TIi1 D.TIi2 hTI), ⟨_, _, (hs''.2 _ D.TOz).trans a2⟩, a3.extBut hs''.extBut D.i1z, a4.extBut hs''.extBut D.i2z⟩ fun b o hb e' => ?_
    simp at hb
    exact (hs''.2 b hb.1).trans (hk b o hb.1 hb.2.2.1 hb.2.2.2.1 hb.2.2.2.2 e')
  done := fun s B st Q E r src own at_ hQ => by
    obtain ⟨its1, hl1, eq1, z1⟩ := r.tup (X := X) src.1
    obtain ⟨its2, hl2, eq2, z2⟩ := r.tup (X := X) src.2
    obtain ⟨hz, hTI, ⟨a, b, hTO⟩, h1, h2⟩ := at_
    rw [zipYs_len] at h1 h2
    have hend : its1[min xs.length ys.length]? = none ∨ its2[min xs.length ys.length]? = none := by
      rcases Nat.le_total xs.length ys.length with h | h
      · exact .inl (by rw [Nat.min_eq_left h, ← map_er_len eq1]; simp)
      · exact .inr (by rw [Nat.min_eq_right h, ← map_er_len eq2]; simp)
    refine zipT_end hh D hz hTI hTO h1 h2 hl1 hl2 hend fun h' hk => hQ h' s.toks fun b o hb e => ?_
    simp at hb
    exact hk b o hb.1 hb.2.2.1 hb.2.2.2.1 hb.2.2.2.2 e
  self := fun i s Q E at_ q => wpAny_pyIter_zip at_.1 q

section
variable {X : Cx} {F : Fx} {sc : Scope} {n : Nat} {E : EQ} {lo ce : Loc} {mh : MH}
theorem ICallV.zipT {l1 l2 : Addr} {xs ys : List Val} {Q : YQ} (ok : Ok F sc n) (la1 : mh l1 = some (.tup xs)) (la2 : mh l2 = some (.tup ys)) (q : Q (zipYs xs ys) (fun m => m l1 = some (.tup xs) ∧ m l2 = some (.tup ys)) lo ce mh) : ICallV X F (.type "zip") [.ref l1, .ref l2] Q E lo ce mh := by
  intro a as ha has s r
  obtain rfl := er_type ha
  obtain ⟨v1, v2, rfl, hv1, hv2⟩ := map_er2 has
  obtain rfl := er_ref hv1
  obtain rfl := er_ref hv2
  obtain ⟨its1, hl1, eq1, z1⟩ := r.tup (X := X) la1
  obtain ⟨its2, hl2, eq2, z2⟩ := r.tup (X := X) la2
  have hlt1 : l1 < s.heap.objs.size := by obtain ⟨o, ho, _⟩ := hl1; exact Heap.lt_size ho
  have hlt2 : l2 < s.heap.objs.size := by obtain ⟨o, ho, _⟩ := hl2; exact Heap.lt_size ho
  refine call_zipT hl1 hl2 fun h' hz hTI hTO hi1 hi2 hk => ?_
  refine wpAny_pyIter_zip hz ⟨h', _, ⟨lo, ce, mh⟩, _, [s.heap.objs.size + 4, s.heap.objs.size + 2, s.heap.objs.size + 3, s.heap.objs.size, s.heap.objs.size + 1], _, _, _, rfl, rfl, r.ext hk, .ext hk,
    Itr.zipT ok.room.hh (zipApart_new hlt1 hlt2), ⟨hz, hTI, ⟨_, _, hTO⟩, hi1, hi2⟩, fun b hb => ?_, q⟩
  have hge : s.heap.objs.size ≤ b := by
    simp only [List.mem_cons, List.not_mem_nil, or_false] at hb
    rcases hb with rfl | rfl | rfl | rfl | rfl
    · exact Nat.le_add_right _ 4
    · exact Nat.le_add_right _ 2
    · exact Nat.le_add_right _ 3
    · exact Nat.le_refl _
    · exact Nat.le_add_right _ 1
  have hnone := past_none hge
  refine ⟨hnone, r.foreign hnone, ?_⟩
  simp only [List.mem_cons, List.not_mem_nil, or_false] at hb
  rcases hb with rfl | rfl | rfl | rfl | rfl
  · exact ⟨_, hz⟩
  · exact ⟨_, hTI⟩
  · exact ⟨_, hTO⟩
  · obtain ⟨o, ho, _⟩ := hi1; exact ⟨o, ho⟩
  · obtain ⟨o, ho, _⟩ := hi2; exact ⟨o, ho⟩

-- slices
def WPart (X : Cx) (F : Fx) : Option Expr → (Option Int → SQ) → EQ → Loc → Loc → MH → Prop
  | none, Q, _, lo, ce, mh => Q none lo ce mh
  | some e, Q, E, lo, ce, mh => WE X F e (fun v l c m => ∃ i, v = .int i ∧ Q (some i) l c m) E lo ce mh
def slcV (xs : List Val) : Option Int → Option Int → List Val
  | none, none => xs
  | some a, none => xs.drop a.toNat
  | none, some b => xs.take b.toNat
  | some a, some b => (xs.take b.toNat).drop a.toNat

-- whole values, read through the mini-heap
mutual
inductive DatV (mh : MH) : Val → PyData → Prop
  | none : DatV mh .none .none
  | bool (b : Bool) : DatV mh (.bool b) (.bool b)
  | int (i : Int) : DatV mh (.int i) (.int i)
  | str (x : Str) : DatV mh (.str x) (.str x)
  | list {a xs ds} : mh a = some (.list xs) → DatL mh xs ds → DatV mh (.ref a) (.list ds)
  | tup {a xs ds} : mh a = some (.tup xs) → DatL mh xs ds → DatV mh (.ref a) (.tuple ds)
inductive DatL (mh : MH) : List Val → List PyData → Prop
  | nil : DatL mh [] []
  | cons {x xs d ds} : DatV mh x d → DatL mh xs ds → DatL mh (x :: xs) (d :: ds)
end
mutual
theorem DatV.reads {H0 : Heap} {B : Blk} {st : St} {h : Heap} (r : Rep H0 B st h) : ∀ {x d}, DatV st.mh x d → ∀ v, er v = x → ∃ as, Reads h v d as
  | _, _, .none, v, e => by obtain rfl := er_none e; exact ⟨_, .none⟩
  | _, _, .bool b, v, e => by obtain rfl := er_bool e; exact ⟨_, .bool _⟩
  | _, _, .int i, v, e => by obtain ⟨t, rfl⟩ := er_int e; exact ⟨_, .int _ _⟩
  | _, _, .str x, v, e => by obtain ⟨t, rfl⟩ := er_str e; exact ⟨_, .str _ _⟩
  | _, _, .list ha hl, v, e => by
    obtain rfl := er_ref e
    obtain ⟨items, ⟨k, ho⟩, eq, z⟩ := (r.objs _ _ ha).1
    obtain ⟨as, hr⟩ := DatL.reads r hl items.toList eq
    exact ⟨_, .list ho rfl rfl hr⟩
  | _, _, .tup ha hl, v, e => by
    obtain rfl := er_ref e
    obtain ⟨items, k, ho, eq, z⟩ := (r.objs _ _ ha).1
    obtain ⟨as, hr⟩ := DatL.reads r hl items.toList eq
    exact ⟨_, .tuple ho rfl rfl hr⟩
theorem DatL.reads {H0 : Heap} {B : Blk} {st : St} {h : Heap} (r : Rep H0 B st h) : ∀ {xs ds}, DatL st.mh xs ds → ∀ vs : List Value, vs.map er = xs → ∃ as, ReadsAll h vs ds as
  | _, _, .nil, vs, e => by
    obtain rfl : vs = [] := by simpa using e
    exact ⟨_, .nil⟩
  | _, _, .cons hd tl, vs, e => by
    match vs, e with
    | v :: vs, e =>
      simp only [List.map_cons, List.cons.injEq] at e
      obtain ⟨as, h1⟩ := DatV.reads r hd v e.1
      obtain ⟨bs, h2⟩ := DatL.reads r tl vs e.2
      exact ⟨_, .cons h1 h2⟩
end
theorem CmpV.neDat {v w : Val} {d e : PyData} {Q : VQ} (ok : Ok F sc n) (hv : DatV mh v d) (hw : DatV mh w e) (h1 : d.canLay0 = true) (h2 : e.canLay0 = true) (h3 : d.depth ≤ 40) (h : Q (.bool (!PyData.eqv d e)) lo ce mh) : CmpV X F .NotEq v w Q E lo ce mh := fun a b ha hb s r => by
  obtain ⟨as, ra⟩ := hv.reads r a ha
  obtain ⟨bs, rb⟩ := hw.reads r b hb
  exact SeqAt.compareNe_reads ra rb h1 h2 (by have := ok.room.hu; omega) (.here (tk := s.toks) r h)
end
end Mine

namespace Mine
open PySem PySem.Calls PyProof.Rows PySem.W

-- small turns of a condition
theorem andT {A B : Prop} (h : A) : (true = true → A) ∧ (true = false → B) := ⟨fun _ => h, fun e => Bool.noConfusion e⟩
theorem andF {A B : Prop} (h : B) : (false = true → A) ∧ (false = false → B) := ⟨fun e => Bool.noConfusion e, fun _ => h⟩
theorem andD {p : Prop} [Decidable p] {A B : Prop} (h1 : p → A) (h2 : ¬p → B) : (decide p = true → A) ∧ (decide p = false → B) := ⟨fun e => h1 (of_decide_eq_true e), fun e => h2 (of_decide_eq_false e)⟩
theorem andN {p : Bool} {A B : Prop} (h : (p = true → B) ∧ (p = false → A)) : ((!p) = true → A) ∧ ((!p) = false → B) := ⟨fun e => h.2 (by simpa using e), fun e => h.1 (by simpa using e)⟩

-- what grows
def MLe (m m' : MH) : Prop := ∀ a o, m a = some o → m' a = some o
theorem MLe.rfl {m : MH} : MLe m m := fun _ _ e => e
theorem MLe.trans {m1 m2 m3 : MH} (h : MLe m1 m2) (h' : MLe m2 m3) : MLe m1 m3 := fun a o e => h' a o (h a o e)
theorem MLe.new {m : MH} {a : Addr} {o : MObj} (h : m a = none) : MLe m (m.set a o) := fun b o' e => by
  rw [MH.set_ne]; exact e
  rintro rfl; rw [h] at e; cases e
theorem MLe.own {m0 m : MH} {a : Addr} {o : MObj} (h : MLe m0 m) (ha : m0 a = none) : MLe m0 (m.set a o) := fun b o' e => by
  rw [MH.set_ne]; exact h b o' e
  rintro rfl; rw [ha] at e; cases e
theorem MLe.none {m0 m : MH} {a : Addr} (h : MLe m0 m) (ha : m a = none) : m0 a = none := by
  cases e : m0 a with
  | none => rfl
  | some o => rw [h _ _ e] at ha; cases ha
theorem LstAt.mono {X : Cx} {m m' : MH} {a : Addr} {xs : List Val} (h : LstAt X m a xs) (l : MLe m m') : LstAt X m' a xs := by
  rcases h with h | h
  · exact .inl (l _ _ h)
  · exact .inr h

-- rows of three
abbrev Ent := Int × Int × Int
def entV (e : Ent) : List Val := [.int e.1, .int e.2.1, .int e.2.2]
def TupIs (m : MH) (t : Addr) (e : Ent) : Prop := m t = some (.tup (entV e))
def TL (m : MH) : List Addr → List Ent → Prop
  | [], [] => True
  | t :: ts, e :: es => TupIs m t e ∧ TL m ts es
  | _, _ => False
theorem TL.mono {m m' : MH} : ∀ {ts es}, TL m ts es → MLe m m' → TL m' ts es
  | [], [], _, _ => trivial
  | _ :: _, _ :: _, ⟨h, r⟩, l => ⟨l _ _ h, TL.mono r l⟩
theorem TL.len {m : MH} : ∀ {ts es}, TL m ts es → ts.length = es.length
  | [], [], _ => rfl
  | _ :: _, _ :: _, ⟨_, r⟩ => by simp [TL.len r]
theorem TL.get' {m : MH} : ∀ {ts es}, TL m ts es → ∀ {i : Nat} {t}, ts[i]? = some t → ∃ e, es[i]? = some e ∧ TupIs m t e
  | [], [], _, i, e, h => by simp at h
  | _ :: _, e :: _, ⟨a, r⟩, 0, t, h => by simp at h; subst h; exact ⟨e, rfl, a⟩
  | _ :: _, _ :: _, ⟨_, r⟩, i + 1, e, h => by simpa using TL.get' r (i := i) (by simpa using h)
theorem TL.set {m : MH} {a : Addr} {o : MObj} : ∀ {ts es}, TL m ts es → (∀ xs, m a ≠ some (.tup xs)) → TL (m.set a o) ts es
  | [], [], _, _ => trivial
  | t :: _, _ :: _, ⟨h, r⟩, n => ⟨by
      unfold TupIs at *
      rw [MH.set_ne]; exact h
      rintro rfl; exact n _ h, TL.set r n⟩
theorem TL.append {m : MH} : ∀ {ts es us fs}, TL m ts es → TL m us fs → TL m (ts ++ us) (es ++ fs)
  | [], [], _, _, _, h => h
  | _ :: _, _ :: _, _, _, ⟨a, r⟩, h => ⟨a, TL.append r h⟩
theorem TL.one {m : MH} {t : Addr} {e : Ent} (h : TupIs m t e) : TL m [t] [e] := ⟨h, trivial⟩
/-- a list of threes -/
def EL (m : MH) (a : Addr) (es : List Ent) : Prop := ∃ ts : List Addr, m a = some (.list (ts.map .ref)) ∧ TL m ts es
theorem EL.mono {m m' : MH} {a : Addr} {es : List Ent} (h : EL m a es) (l : MLe m m') : EL m' a es := let ⟨ts, h1, h2⟩ := h; ⟨ts, l _ _ h1, h2.mono l⟩

section
variable {X : Cx} {F : Fx} {sc : Scope} {n : Nat} {E : EQ} {lo ce : Loc} {mh : MH}
end
end Mine

namespace Mine
open PySem PySem.Calls PyProof.Rows PySem.W

section
variable {X : Cx} {F : Fx} {sc : Scope} {n : Nat} {E : EQ} {lo ce : Loc} {mh : MH}
variable {kd kd' : ScopeKind} {ns ns' ns2 : List (Str × NameKind)} {ig ic ig' ic' : Bool} {mo mo' : List (Str × Const)}

/-- the turns of a comprehension with one name -/
def CompQ1 (X : Cx) (kd' : ScopeKind) (ns' ns2 : List (Str × NameKind)) (ig' ic' : Bool) (mo' : List (Str × Const)) (n : Nat) (x1 : Str) (p1 : Pos) (elt : Expr) (ifs : List Expr) (Q : VQ) : YQ := fun ys src l1 c1 m1 =>
  ∃ (ce2 : Loc) (Inv : Nat → List Val → MH → Prop), CelOf c1 ns' ce2 ∧ Inv 0 [] m1 ∧ (∀ i acc m, Inv i acc m → src m) ∧ (∀ y ∈ ys, ∃ v, y = .val v) ∧
  (∀ F2, Ok F2 ⟨kd', ns2, ig', ic', mo'⟩ n → ∀ i y acc m, ys[i]? = some (.val y) → Inv i acc m →
    WTests X F2 ifs (fun b l4 c4 m4 => (b = true → WE X F2 elt (fun v _ _ m5 => Inv (i + 1) (acc ++ [v]) m5 ∧ (acc ++ [v]).length ≤ sizeLine) (fun _ _ => False) l4 c4 m4) ∧ (b = false → Inv (i + 1) acc m4)) (fun _ _ => False) [(x1, some y)] ce2 m) ∧
  ∀ acc m D, Inv ys.length acc m → m D = none → X.H0.get? D = none → Q (.ref D) l1 c1 (m.set D (.list acc))
theorem CompQ1.to {x1 : Str} {p1 : Pos} {elt : Expr} {ifs : List Expr} {Q : VQ} {ys : List Yd} {src : MH → Prop} {l1 c1 : Loc} {m1 : MH} (h : CompQ1 X kd' ns' ns2 ig' ic' mo' n x1 p1 elt ifs Q ys src l1 c1 m1) :
    CompQL X kd' ns' ns2 ig' ic' mo' n [x1] (.Name x1 p1) elt ifs Q ys src l1 c1 m1 := by
  obtain ⟨ce2, Inv, a1, a2, a3, a4, a5, a6⟩ := h
  refine ⟨ce2, Inv, a1, a2, a3, fun y hy => ?_, fun F2 ok2 i y acc m g hy hi => ?_, a6⟩
  · obtain ⟨v, rfl⟩ := a4 y hy; exact trivial
  · obtain ⟨v, rfl⟩ := a4 y (List.mem_of_getElem? hy)
    exact AssV.name (StoV.local ok2 Put.here (a5 F2 ok2 i v acc m hy hi))
theorem WE.comp1 {elt iter : Expr} {ifs : List Expr} {pos p1 : Pos} {x1 : Str} {ce0 : Loc} {Q : VQ} (ok : Ok F ⟨kd, ns, ig, ic, mo⟩ n) (hre : RelabR ns ns' ns2) (hce0 : CelOf ce ns' ce0) (hxs : (x1, NameKind.local) ∈ ns') (hsc : scOk ⟨kd', ns', ig', ic', mo'⟩ = true)
    (h : WI X F iter (CompQ1 X kd' ns' ns2 ig' ic' mo' n x1 p1 elt ifs Q) E lo ce mh) (hs : ∀ x, foldedSetIterable iter F.env x = pure x := by intro _; rfl) : WE X F (.ListComp elt [⟨.Name x1 p1, iter, ifs, 0⟩] ⟨kd', ns', ig', ic', mo'⟩ pos) Q E lo ce mh :=
  WE.comp [x1] ok hre hce0 (by simpa using hxs) hsc (by simp) (WI.weak h fun _ _ _ _ _ => CompQ1.to) hs
theorem WS.assignComp1 {elt iter : Expr} {ifs : List Expr} {cpos pos p p1 : Pos} {x x1 : Str} {ce0 : Loc} {Q : FQ} (ok : Ok F ⟨kd, ns, ig, ic, mo⟩ n) (hre : RelabR ns ns' ns2) (hce0 : CelOf ce ns' ce0) (hxs : (x1, NameKind.local) ∈ ns') (hx : (x, NameKind.local) ∈ ns)
    (hsc : scOk ⟨kd', ns', ig', ic', mo'⟩ = true) (hline : (p.line == cpos.line) = true) (hno : (ns'.any fun (n, k) => n == x && (k == .local || k == .cell)) = false)
    (h : WI X F iter (CompQ1 X kd' ns' ns2 ig' ic' mo' n x1 p1 elt ifs fun v l1 c1 m1 => StoV X F x v (fun l2 c2 m2 => Q .next l2 c2 m2) E l1 c1 m1) E lo ce mh) (hs : ∀ x, foldedSetIterable iter F.env x = pure x := by intro _; rfl) :
    WS X F (.Assign [.Name x p] (.ListComp elt [⟨.Name x1 p1, iter, ifs, 0⟩] ⟨kd', ns', ig', ic', mo'⟩ cpos) pos) Q E lo ce mh :=
  WS.assignComp [x1] ok hre hce0 (by simpa using hxs) hx hsc (by simp) hline hno (WI.weak h fun _ _ _ _ _ => CompQ1.to) hs

/-- the turns of a comprehension over pairs -/
def CompQ2 (X : Cx) (kd' : ScopeKind) (ns' ns2 : List (Str × NameKind)) (ig' ic' : Bool) (mo' : List (Str × Const)) (n : Nat) (x1 x2 : Str) (elt : Expr) (ifs : List Expr) (Q : VQ) : YQ := fun ys src l1 c1 m1 =>
  ∃ (ce2 : Loc) (Inv : Nat → List Val → MH → Prop), CelOf c1 ns' ce2 ∧ Inv 0 [] m1 ∧ (∀ i acc m, Inv i acc m → src m) ∧ (∀ y ∈ ys, ∃ v w, y = .tup [v, w]) ∧
  (∀ F2, Ok F2 ⟨kd', ns2, ig', ic', mo'⟩ n → ∀ i y z acc m T, ys[i]? = some (.tup [y, z]) → Inv i acc m → m T = none → X.H0.get? T = none →
    WTests X F2 ifs (fun b l4 c4 m4 => (b = true → WE X F2 elt (fun v _ _ m5 => Inv (i + 1) (acc ++ [v]) m5 ∧ (acc ++ [v]).length ≤ sizeLine) (fun _ _ => False) l4 c4 m4) ∧ (b = false → Inv (i + 1) acc m4)) (fun _ _ => False) [(x1, some y), (x2, some z)] ce2 (m.set T (.tup [y, z]))) ∧
  ∀ acc m D, Inv ys.length acc m → m D = none → X.H0.get? D = none → Q (.ref D) l1 c1 (m.set D (.list acc))
theorem CompQ2.to {x1 x2 : Str} {p1 p2 tp : Pos} {k : Nat} {elt : Expr} {ifs : List Expr} {Q : VQ} {ys : List Yd} {src : MH → Prop} {l1 c1 : Loc} {m1 : MH} (hne : x1 ≠ x2) (h : CompQ2 X kd' ns' ns2 ig' ic' mo' n x1 x2 elt ifs Q ys src l1 c1 m1) :
    CompQL X kd' ns' ns2 ig' ic' mo' n [x1, x2] (.Tuple [.Name x1 p1, .Name x2 p2] k tp) elt ifs Q ys src l1 c1 m1 := by
  obtain ⟨ce2, Inv, a1, a2, a3, a4, a5, a6⟩ := h
  refine ⟨ce2, Inv, a1, a2, a3, fun y hy => ?_, fun F2 ok2 i y acc m g hy hi => ?_, a6⟩
  · obtain ⟨v, w, rfl⟩ := a4 y hy; exact ⟨_, _, _, rfl⟩
  · obtain ⟨v, w, rfl⟩ := a4 y (List.mem_of_getElem? hy)
    intro T hT hT0
    exact AssV.tuple ok2 MH.set_same (AssL.cons (AssV.name (StoV.local ok2 Put.here (AssL.cons (AssV.name (StoV.local ok2 (Put.there Put.here) (AssL.nil (a5 F2 ok2 i v w acc m T hy hi hT hT0))))))))
theorem WE.comp2 {elt iter : Expr} {ifs : List Expr} {pos p1 p2 tp : Pos} {k : Nat} {x1 x2 : Str} {ce0 : Loc} {Q : VQ} (ok : Ok F ⟨kd, ns, ig, ic, mo⟩ n) (hre : RelabR ns ns' ns2) (hce0 : CelOf ce ns' ce0) (hx1 : (x1, NameKind.local) ∈ ns') (hx2 : (x2, NameKind.local) ∈ ns') (hne : x1 ≠ x2) (hsc : scOk ⟨kd', ns', ig', ic', mo'⟩ = true)
    (h : WI X F iter (CompQ2 X kd' ns' ns2 ig' ic' mo' n x1 x2 elt ifs Q) E lo ce mh) (hs : ∀ x, foldedSetIterable iter F.env x = pure x := by intro _; rfl) : WE X F (.ListComp elt [⟨.Tuple [.Name x1 p1, .Name x2 p2] k tp, iter, ifs, 0⟩] ⟨kd', ns', ig', ic', mo'⟩ pos) Q E lo ce mh :=
  WE.comp [x1, x2] ok hre hce0 (by simp [hx1, hx2]) hsc (by simp [hne]) (WI.weak h fun _ _ _ _ _ => CompQ2.to hne) hs
/-- both roads of a choice meet -/
theorem WS.ifJ {t : Expr} {b o : List Stmt} {pos : Pos} {Q : FQ} (J : SQ) (h : WT X F t (fun c l1 c1 m1 => (c = true → WB X F b (fun f l c m => f = .next ∧ J l c m) E l1 c1 m1) ∧ (c = false → WB X F o (fun f l c m => f = .next ∧ J l c m) E l1 c1 m1)) E lo ce mh)
    (k : ∀ l c m, J l c m → Q .next l c m) : WS X F (.If t b o pos) Q E lo ce mh :=
  WS.if (WT.weak h fun c l1 c1 m1 q => ⟨fun e => WB.weak (q.1 e) fun f l c m ⟨e1, j⟩ => e1 ▸ k l c m j, fun e => WB.weak (q.2 e) fun f l c m ⟨e1, j⟩ => e1 ▸ k l c m j⟩)
theorem WS.whileJ {test : Expr} {body : List Stmt} {pos : Pos} {Q : FQ} (Inv : Nat → Loc → Loc → MH → Prop) (J : SQ) (k : Nat) (h0 : Inv k lo ce mh)
    (turn : ∀ k l c m, Inv k l c m → WT X F test (fun b l1 c1 m1 => (b = true → WB X F body (fun f l2 c2 m2 => f = .next ∧ ∃ j, j < k ∧ Inv j l2 c2 m2) (fun _ _ => False) l1 c1 m1) ∧ (b = false → J l1 c1 m1)) (fun _ _ => False) l c m)
    (fin : ∀ l c m, J l c m → Q .next l c m) : WS X F (.While test body [] pos) Q E lo ce mh :=
  WS.while Inv k h0 fun k l c m hi => WT.weak (turn k l c m hi) fun b l1 c1 m1 q => ⟨fun e => WB.weak (q.1 e) fun f l2 c2 m2 ⟨e1, j⟩ => by subst e1; exact j, fun e => fin _ _ _ (q.2 e)⟩
theorem WS.exprOk {e : Expr} {pos : Pos} {Q : FQ} (ok : Ok F sc n) (h : WE X F e (fun v l1 c1 m1 => Q .next l1 c1 m1) E lo ce mh) (hs : swapsWith e none pos.line F.env = pure false := by rfl) : WS X F (.Expr e pos) Q E lo ce mh := by
  refine WS.expr h ?_ hs
  obtain ⟨e1, _, _, _, e5, _⟩ := ok.he
  unfold interactive
  rw [e1, e5]
  rfl
theorem WTests.nil {Q : BQ} (h : Q true lo ce mh) : WTests X F [] Q E lo ce mh := h
theorem WTests.one {e : Expr} {Q : BQ} (h : WT X F e Q E lo ce mh) : WTests X F [e] Q E lo ce mh := h
end
end Mine

namespace Mine
open PySem PySem.Calls PyProof.Rows PySem.W

theorem Glb.ref {K : Frag} {H0 : Heap} {p : Program} {loose : List Str} {mg mb : Str → Option Value} {x : Str} {f : Addr} (KX : K.In H0) (T : TopRead p loose mg mb H0) (e : nsIn K mainGlobals x = some (some (.ref f))) (hd : (x == ("__debug__" : Str)) = false) : Glb H0 x (.ref f) := Glb.ofK KX T e hd
theorem Glb.bi {K : Frag} {H0 : Heap} {p : Program} {loose : List Str} {mg mb : Str → Option Value} {x : Str} {id : String} (KX : K.In H0) (T : TopRead p loose mg mb H0) (e : nsIn K mainGlobals x = some none) (hv : bootBuiltins x = some (.builtin id)) (hn : x ≠ "__name__") (hd : (x == ("__debug__" : Str)) = false) : Glb H0 x (.builtin id) := Glb.boot KX T e hv hn hd
theorem Glb.ty {K : Frag} {H0 : Heap} {p : Program} {loose : List Str} {mg mb : Str → Option Value} {x : Str} {id : String} (KX : K.In H0) (T : TopRead p loose mg mb H0) (e : nsIn K mainGlobals x = some none) (hv : bootBuiltins x = some (.type id)) (hn : x ≠ "__name__") (hd : (x == ("__debug__" : Str)) = false) : Glb H0 x (.type id) := Glb.boot KX T e hv hn hd

/-- the call from outside -/
def TopV (X : Cx) (A : Around) (f : Addr) (vs : List Val) (Q : Val → Prop) : Prop := ∀ (s : Shared) (raws : List Value), s.heap = X.H0 → raws.map er = vs →
  wpAny (model X.prog X.w) A (call (.ref f) raws) (fun v s' => ∃ h' tk, s' = { s with heap := h', toks := tk } ∧ (∀ b o, s.heap.get? b = some o → h'.get? b = some o) ∧ Q (er v)) (fun _ _ => False) s
theorem TopV.def {X : Cx} {A : Around} {n : Nat} {f : Addr} {st : Stmt} {kd : ScopeKind} {ns : List (Str × NameKind)} {ig ic : Bool} {mo : List (Str × Const)} {b0 : Stmt} {bs : List Stmt} {ps : List Str} {vs : List Val} {lo' ce' : Loc} {Q : Val → Prop} (D : FnIs X.H0 f st) (room : Room A (n + 1))
    (hsc : fnScope st = ⟨kd, ns, ig, ic, mo⟩) (hb : fnBody st = b0 :: bs) (hp : fnParams st = ps) (hi : InitP ps vs ns lo' ce')
    (h : ∀ F', Ok F' ⟨kd, ns, ig, ic, mo⟩ n → CellsOk' F' ⟨kd, ns, ig, ic, mo⟩ → WB X F' (b0 :: bs) (fun fl _ _ _ => Q (retOf fl)) (fun _ _ => False) lo' ce' (fun _ => none)) : TopV X A f vs Q := by
  obtain ⟨fd, D, e⟩ := D
  rw [hb, hp] at D
  rw [hsc] at e
  obtain ⟨nd, hdb, hk, hco, hgen⟩ := scOk_parts D.sc
  have nd' := nd
  rw [e] at nd'
  obtain ⟨h1, h2⟩ := hi.eq (fun x => (ps.zip vs).lookup x) nd' fun _ _ => rfl
  intro s raws hs hr
  subst hr
  obtain ⟨o, ho, hd⟩ := D.obj
  obtain ⟨g1, g2, g3⟩ := D.glob
  have base : ∀ b o, X.H0.get? b = some o → s.heap.get? b = some o := fun b o e => by rw [hs]; exact e
  have hln : raws.length = ps.length := by have := hi.len; simpa using this
  refine wpAny_call (codeAny_call_function (by have := room.hd; omega) (base _ _ ho) hd hco hgen D.body (D.code.keeps base) ?_)
  rw [D.bind raws hln]
  refine wpAny_pure ?_
  rw [g3]
  refine wpAny_newFunctionEnv_cells hk (fun p hp => ?_) fun env he s' x => ?_
  · rcases D.kinds p.1 (List.of_mem_zip hp).1 with h1 | h1
    · exact .inl h1
    · obtain ⟨c, hc⟩ := cellsFrom_lookup fd.scope.names (s.heap.objs.size + 1) [] (.inl ⟨h1, nd⟩)
      exact .inr ⟨h1, by rw [hc]; rfl⟩
  · subst he
    have r1 := Rep.enter (mh := fun _ => none) D base (fun a mo e => by cases e) x
    refine ⟨(D.lim.keeps base).keeps x.toInCall.keep, codeAny_func ?_⟩
    obtain ⟨h₁, tk, rfl⟩ := x.toInCall.same
    obtain ⟨l, hl⟩ := room.hf
    have ok : Ok ⟨A.deeper (fnEnv fd s.heap.objs.size f), fnBlk fd s.heap.objs.size, fnEnv fd s.heap.objs.size f⟩ fd.scope n :=
      ⟨⟨rfl, rfl, rfl, g1, hk, g2⟩, rfl, room.deeper, ⟨fnEnv fd s.heap.objs.size f, l, by show A.frames.map _ = _; rw [hl]; rfl, hgen, hco, g2, g1⟩, nd⟩
    have cel : CellsOk' ⟨A.deeper (fnEnv fd s.heap.objs.size f), fnBlk fd s.heap.objs.size, fnEnv fd s.heap.objs.size f⟩ fd.scope := ⟨rfl, rfl⟩
    have e1 : initLoc ⟨kd, ns, ig, ic, mo⟩ ps (raws.map er) = lo' := h1
    have e2 : initCel ⟨kd, ns, ig, ic, mo⟩ ps (raws.map er) = ce' := h2
    rw [← e] at e1 e2
    rw [e1, e2] at r1
    rw [e] at ok cel
    refine wpAny_mono (h _ ok cel _ r1) (fun fl s2 p => ?_) fun e s2 p => by obtain ⟨_, _, _, _, _, _, f⟩ := p; exact f.elim
    obtain ⟨h', tk', st', rfl, r', k', q⟩ := p
    refine ⟨h', tk', rfl, fun b o e => r'.base b o (by rw [← hs]; exact e), ?_⟩
    cases fl <;> exact q
end Mine

namespace MineS
open PySem PyProof.Rows

/-- a change inside a stretch -/
structure Loc2 (lo hi : Nat) (xs ys : Array Keyed) : Prop where
  perm : ys.Perm xs
  out : ∀ k, (k < lo ∨ hi ≤ k) → ys[k]? = xs[k]?
theorem Loc2.rfl {lo hi : Nat} {xs : Array Keyed} : Loc2 lo hi xs xs := ⟨Array.Perm.refl _, fun _ _ => by first | rfl | trivial⟩
theorem Loc2.trans {lo hi : Nat} {xs ys zs : Array Keyed} (h : Loc2 lo hi xs ys) (h' : Loc2 lo hi ys zs) : Loc2 lo hi xs zs := ⟨h'.perm.trans h.perm, fun k hk => (h'.out k hk).trans (h.out k hk)⟩
theorem Loc2.wide {lo hi lo' hi' : Nat} {xs ys : Array Keyed} (h : Loc2 lo hi xs ys) (h1 : lo' ≤ lo) (h2 : hi ≤ hi') : Loc2 lo' hi' xs ys := ⟨h.perm, fun k hk => h.out k (by omega)⟩
theorem Loc2.mirror {lo hi i j : Nat} {xs : Array Keyed} (h1 : lo ≤ i) (h2 : j ≤ hi) (hj : j ≤ xs.size) : Loc2 lo hi xs (mirror xs i j ((j - i) / 2)) :=
  ⟨mirror_perm _ _ _ _, fun k hk => by rw [getElem?_mirror_all hj, if_neg (by omega)]⟩
theorem Loc2.bubble {lo hi src d : Nat} {xs : Array Keyed} (h1 : lo ≤ src - d) (h2 : src < hi) (hs : src < xs.size) (hd : d ≤ src) : Loc2 lo hi xs (bubble xs src d) :=
  ⟨bubble_perm _ _ _, fun k hk => by rw [getElem?_bubble hs d hd, if_neg (by omega), if_neg (by omega)]⟩
theorem Loc2.K {lo hi : Nat} {xs ys : Array Keyed} (h : Loc2 lo hi xs ys) {k : Nat} (hk : k < lo ∨ hi ≤ k) : K ys k = K xs k := K_congr (h.out k hk)

def Up (xs : Array Keyed) (lo hi : Nat) : Prop := ∀ i j, lo ≤ i → i ≤ j → j < hi → K xs i ≤ K xs j
def Dn (xs : Array Keyed) (lo hi : Nat) : Prop := ∀ i j, lo ≤ i → i ≤ j → j < hi → K xs j ≤ K xs i
theorem Up.one (xs : Array Keyed) (lo : Nat) : Up xs lo (lo + 1) := fun i j h1 h2 h3 => by
  have : i = j := by omega
  subst this; exact Int.le_refl _
theorem Up.keep {lo hi lo' hi' : Nat} {xs ys : Array Keyed} (h : Up xs lo hi) (l : Loc2 lo' hi' xs ys) (hd : hi ≤ lo' ∨ hi' ≤ lo) : Up ys lo hi := fun i j h1 h2 h3 => by
  rw [l.K (k := i) (by omega), l.K (k := j) (by omega)]; exact h i j h1 h2 h3

structure SB (a₀ : Array Keyed) (st : SortSt) : Prop where
  perm : (arrOf st).Perm a₀
  kind : kindOf st = oneType'
  failed : failedOf st = none
theorem SB.size {a₀ : Array Keyed} {st : SortSt} (h : SB a₀ st) : (arrOf st).size = a₀.size := h.perm.size_eq
theorem SB.arr {a₀ : Array Keyed} {st : SortSt} (h : SB a₀ st) {xs : Array Keyed} (hp : xs.Perm (arrOf st)) : SB a₀ (setArr st xs) := ⟨hp.trans h.perm, h.kind, h.failed⟩
theorem ikPerm {xs ys : Array Keyed} (h : IntKeys ys) (hp : xs.Perm ys) : IntKeys xs := fun p hm => h p ((Array.perm_iff_toList_perm.mp hp).mem_iff.mp hm)
theorem ikAt {xs : Array Keyed} (h : IntKeys xs) {i : Nat} (hi : i < xs.size) : ∃ t q, xs[i]? = some (.int (K xs i) t, q) := by
  obtain ⟨n, t, hn⟩ := h xs[i] (by simp)
  refine ⟨t, xs[i].2, ?_⟩
  have e : xs[i]? = some xs[i] := getElem?_pos _ i hi
  have e2 : xs[i] = (.int n t, xs[i].2) := Prod.ext hn rfl
  unfold K
  rw [e, e2]
  rfl

section
variable {prog : Program} {w : World} {A : Around} {E : Value → Shared → Prop} {s : Shared} {a₀ : Array Keyed}
theorem wpS_elem {st : SortSt} {arr : Array Keyed} {i : Nat} {p : Keyed} {Q : Keyed → SortSt → Prop} (h : arr[i]? = some p) (q : Q p st) : wpS (model prog w) A E s (elem' arr i) Q st := by
  rw [elem'_eq, h]; exact wpS_pure q
theorem wpS_lt {st : SortSt} {a b : Int} {t u : Tok} {p q : Value} {Q : Option Bool → SortSt → Prop} (hk : kindOf st = oneType') (h : Q (some (decide (a < b))) st) : wpS (model prog w) A E s (lt' (.int a t, p) (.int b u, q)) Q st := by
  rw [lt'_eq]
  refine wpS_bind (wpS_get ?_)
  rw [hk, keyLt'_oneType]
  exact wpS_bind (wpS_lift (wpAny_attempt (oneLt_int ⟨rfl, wpS_pure h⟩)))
theorem wpS_ltA {st : SortSt} {i j : Nat} {Q : Option Bool → SortSt → Prop} (hB : SB a₀ st) (h0 : IntKeys a₀) (hi : i < a₀.size) (hj : j < a₀.size)
    (h : Q (some (decide (K (arrOf st) i < K (arrOf st) j))) st) : wpS (model prog w) A E s (ltAt' i j) Q st := by
  obtain ⟨t, p, e1⟩ := ikAt (ikPerm h0 hB.perm) (i := i) (by rw [hB.size]; exact hi)
  obtain ⟨u, q, e2⟩ := ikAt (ikPerm h0 hB.perm) (i := j) (by rw [hB.size]; exact hj)
  exact wpS_ltAt hB.kind e1 e2 h

-- binary insertion, anywhere
theorem wpS_binary {st : SortSt} {lo n ok : Nat} {Q : Bool → SortSt → Prop} (h0 : IntKeys a₀) (hn : lo + n ≤ a₀.size) (hok : ok ≤ n) (hB : SB a₀ st) (hs : Up (arrOf st) lo (lo + ok))
    (h : ∀ st', SB a₀ st' → pendingOf st' = pendingOf st → Loc2 lo (lo + n) (arrOf st) (arrOf st') → Up (arrOf st') lo (lo + n) → Q true st') : wpS (model prog w) A E s (binarySort' lo n ok) Q st := by
  rw [binarySort'_eq]
  refine wpS_bind (wpS_mono (wpS_forRange (I := fun k c st' => c = (none, ()) ∧ SB a₀ st' ∧ pendingOf st' = pendingOf st ∧ Loc2 lo (lo + n) (arrOf st) (arrOf st') ∧ Up (arrOf st') lo (lo + min k n))
    (Q := fun c st' => c = (none, ()) ∧ SB a₀ st' ∧ pendingOf st' = pendingOf st ∧ Loc2 lo (lo + n) (arrOf st) (arrOf st') ∧ Up (arrOf st') lo (lo + n)) ?step ?fin ?init) ?post)
  case post =>
    rintro c st' ⟨rfl, hB', hp', hl', hs'⟩
    exact wpS_pure (h st' hB' hp' hl' hs')
  case init =>
    refine ⟨rfl, hB, rfl, .rfl, fun i j h1 hij hj => ?_⟩
    by_cases h2 : ok = 0
    · have : i = j := by omega
      subst this; exact Int.le_refl _
    · exact hs i j h1 hij (by omega)
  case fin =>
    rintro c st' ⟨hc, hB', hp', hl', hs'⟩
    refine ⟨hc, hB', hp', hl', ?_⟩
    rwa [show min (max (max ok 1) n) n = n by omega] at hs'
  case step =>
    rintro k c st' hak hkn ⟨rfl, hB', hp', hl', hs'⟩
    rw [show min k n = k by omega] at hs'
    have hk : lo + k < a₀.size := by omega
    refine wpS_bind (wpS_mono (wpS_forRange (I := fun x c st'' => st'' = st' ∧ ∃ l r, c = (none, l, r) ∧ l ≤ r ∧ r ≤ k ∧ r - l ≤ k - x ∧
        (∀ i, i < l → K (arrOf st') (lo + i) ≤ K (arrOf st') (lo + k)) ∧ (∀ i, r ≤ i → i < k → K (arrOf st') (lo + k) < K (arrOf st') (lo + i)))
      (Q := fun c st'' => st'' = st' ∧ ∃ l r, c = (none, l, r) ∧ l ≤ k ∧
        (∀ i, i < l → K (arrOf st') (lo + i) ≤ K (arrOf st') (lo + k)) ∧ (∀ i, l ≤ i → i < k → K (arrOf st') (lo + k) < K (arrOf st') (lo + i))) ?istep ?ifin ?iinit) ?ipost)
    case iinit => exact ⟨rfl, 0, k, rfl, by omega, by omega, by omega, fun i hi => by omega, fun i h1 h2 => by omega⟩
    case ifin =>
      rintro c st'' ⟨rfl, l, r, rfl, hlr, hrk, hm, hlo, hhi⟩
      have : l = r := by omega
      subst this
      exact ⟨rfl, l, l, rfl, hrk, hlo, hhi⟩
    case istep =>
      rintro x c st'' _ hxk ⟨rfl, l, r, rfl, hlr, hrk, hm, hlo, hhi⟩
      dsimp only
      by_cases hge : l ≥ r
      · rw [if_pos hge]
        have : l = r := by omega
        subst this
        exact wpS_pure ⟨rfl, l, l, rfl, hrk, hlo, hhi⟩
      · rw [if_neg hge]
        refine wpS_bind (wpS_ltA hB' h0 hk (by omega) ?_)
        by_cases hless : K (arrOf st'') (lo + k) < K (arrOf st'') (lo + (l + r) / 2)
        · simp only [hless, decide_true, if_true]
          refine wpS_pure ⟨rfl, l, (l + r) / 2, rfl, by omega, by omega, by omega, hlo, fun i h1 h2 => ?_⟩
          exact Int.lt_of_lt_of_le hless (hs' _ _ (by omega) (by omega) (by omega))
        · simp only [hless, decide_false, Bool.false_eq_true, if_false]
          refine wpS_pure ⟨rfl, (l + r) / 2 + 1, r, rfl, by omega, by omega, by omega, fun i h1 => ?_, hhi⟩
          exact Int.le_trans (hs' (lo + i) (lo + (l + r) / 2) (by omega) (by omega) (by omega)) (Int.not_lt.mp hless)
    case ipost =>
      rintro c st'' ⟨rfl, l, r, rfl, hlk, hlo, hhi⟩
      show wpS _ _ _ _ (do moveDown' (lo + k) (lo + l); pure (ForInStep.yield (none, ()))) _ _
      rw [moveDown'_eq]
      have hks : lo + k < (arrOf st'').size := by rw [hB'.size]; exact hk
      refine wpS_bind (wpS_modify (wpS_pure ⟨rfl, hB'.arr (bubble_perm _ _ _), hp', hl'.trans (.bubble (by omega) (by omega) hks (by omega)), ?_⟩))
      rw [show min (k + 1) n = k + 1 by omega]
      intro i j h1 hij hj
      show K (bubble (arrOf st'') (lo + k) (lo + k - (lo + l))) i ≤ K (bubble (arrOf st'') (lo + k) (lo + k - (lo + l))) j
      rw [K_bubble hks (by omega), K_bubble hks (by omega), show lo + k - (lo + k - (lo + l)) = lo + l by omega]
      have hlo' : ∀ i, lo ≤ i → i < lo + l → K (arrOf st'') i ≤ K (arrOf st'') (lo + k) := fun i h1 h2 => by
        have := hlo (i - lo) (by omega); rwa [show lo + (i - lo) = i by omega] at this
      have hhi' : ∀ i, lo + l ≤ i → i < lo + k → K (arrOf st'') (lo + k) < K (arrOf st'') i := fun i h1 h2 => by
        have := hhi (i - lo) (by omega) (by omega); rwa [show lo + (i - lo) = i by omega] at this
      repeat' split
      all_goals first
        | (exfalso; omega)
        | exact Int.le_refl _
        | exact hlo' _ (by omega) (by omega)
        | exact Int.le_of_lt (hhi' _ (by omega) (by omega))
        | exact hs' _ _ (by omega) (by omega) (by omega)
end
end MineS

namespace MineS
open PySem PyProof.Rows

theorem mirror_same {xs : Array Keyed} {i j : Nat} (hj : j ≤ xs.size) (heq : ∀ k, i ≤ k → k < j → K xs k = K xs (j - 1)) (k : Nat) : K (mirror xs i j ((j - i) / 2)) k = K xs k := K_mirror_equal hj heq k

-- the pieces of a run's count, with its place
def ascG (lo a nrem : Nat) : StateT SortSt Sem AscSt :=
  forIn [a:nrem] ((none, a) : AscSt) fun _ r => do
    let x ← ltAt' (lo + r.snd) (lo + r.snd - 1)
    match x with
    | some smaller => if smaller = true then pure (ForInStep.done (none, r.snd)) else pure (ForInStep.yield (none, r.snd + 1))
    | _ => pure (ForInStep.done (some none, r.snd))
def endG (lo n nrem : Nat) : StateT SortSt Sem (Option Nat) := do
  reverseSlice' lo (lo + n)
  let r ← ascG lo n nrem
  match r.fst with
  | some v => pure v
  | none => pure (some r.snd)
def descG (lo n nrem : Nat) : StateT SortSt Sem DescSt :=
  forIn [n:nrem] ((none, n, 0) : DescSt) fun _ r => do
    let x ← ltAt' (lo + r.snd.fst) (lo + r.snd.fst - 1)
    match x with
    | some smaller =>
      if smaller = true then
        if r.snd.snd > 0 then do
          reverseSlice' (lo + r.snd.fst - (r.snd.snd + 1)) (lo + r.snd.fst)
          pure (ForInStep.yield (none, r.snd.fst + 1, 0))
        else pure (ForInStep.yield (none, r.snd.fst + 1, 0))
      else do
        let y ← ltAt' (lo + r.snd.fst - 1) (lo + r.snd.fst)
        match y with
        | some larger =>
          if larger = true then pure (ForInStep.done (none, r.snd.fst, r.snd.snd))
          else pure (ForInStep.yield (none, r.snd.fst + 1, r.snd.snd + 1))
        | _ => pure (ForInStep.done (some none, r.snd.fst, r.snd.snd))
    | _ => pure (ForInStep.done (some none, r.snd.fst, r.snd.snd))
def fallG (lo n nrem : Nat) : StateT SortSt Sem (Option Nat) := do
  liftM (rule "list.sort.descending-run")
  let r ← descG lo (n + 1) nrem
  match r.fst with
  | some v => pure v
  | none =>
    if r.snd.snd > 0 then do
      reverseSlice' (lo + r.snd.fst - (r.snd.snd + 1)) (lo + r.snd.fst)
      endG lo r.snd.fst nrem
    else endG lo r.snd.fst nrem

local macro_rules | `(tactic| walk_at "tl") => `(tactic| (funext s3; obtain ⟨r3, n3⟩ := s3; cases r3 <;> rfl))
local macro_rules | `(tactic| walk_at "t3") => `(tactic| (congr 1; funext _w; congr 1; walk_at "tl"))
local macro_rules | `(tactic| walk_at "ds") => `(tactic| (congr 1; funext _u; congr 1; congr 1; funext s2; obtain ⟨r2, n2, q2⟩ := s2; cases r2 with
  | some r2 => rfl
  | none => (dsimp only; split; (congr 1; funext _v; walk_at "t3"); walk_at "t3")))

theorem countG_eq (lo nrem : Nat) : countRun' lo nrem = (do
    let r ← ascG lo 1 nrem
    match r.fst with
    | some v => pure v
    | none =>
      if (r.snd == nrem) = true then pure (some r.snd)
      else if r.snd > 1 then do
        let x ← ltAt' lo (lo + r.snd - 1)
        match x with
        | some rose => if rose = true then pure (some r.snd) else do
            reverseSlice' lo (lo + r.snd)
            fallG lo r.snd nrem
        | _ => pure none
      else fallG lo r.snd nrem) := by
  rw [countRun'_eq]
  unfold fallG endG descG ascG
  dsimp only
  congr 1
  funext r
  obtain ⟨r, n⟩ := r
  cases r with
  | some r => rfl
  | none =>
    dsimp only
    split
    · rfl
    · split
      · congr 1
        funext x
        cases x with
        | none => rfl
        | some rose =>
          dsimp only
          split
          · rfl
          · congr 1
            funext _r
            walk_at "ds"
      · walk_at "ds"

section
variable {prog : Program} {w : World} {A : Around} {E : Value → Shared → Prop} {s : Shared} {a₀ : Array Keyed}

theorem wpS_ascG {st : SortSt} {lo a nrem : Nat} {Q : AscSt → SortSt → Prop} (h0 : IntKeys a₀) (hn : lo + nrem ≤ a₀.size) (ha : 1 ≤ a) (han : a ≤ nrem) (hB : SB a₀ st) (hs : Up (arrOf st) lo (lo + a))
    (h : ∀ n, a ≤ n → n ≤ nrem → Up (arrOf st) lo (lo + n) → (n = nrem ∨ K (arrOf st) (lo + n) < K (arrOf st) (lo + n - 1)) → Q (none, n) st) :
    wpS (model prog w) A E s (ascG lo a nrem) Q st := by
  unfold ascG
  refine wpS_forRange (I := fun x c st' => st' = st ∧ c = (none, x) ∧ Up (arrOf st) lo (lo + x)) ?step ?fin ⟨rfl, rfl, hs⟩
  case fin =>
    rintro c st' ⟨rfl, rfl, hs'⟩
    rw [show max a nrem = nrem by omega] at hs' ⊢
    exact h nrem han (Nat.le_refl _) hs' (.inl rfl)
  case step =>
    rintro x c st' hax hxn ⟨rfl, rfl, hs'⟩
    dsimp only
    refine wpS_bind (wpS_ltA hB h0 (by omega) (by omega) ?_)
    by_cases hless : K (arrOf st') (lo + x) < K (arrOf st') (lo + x - 1)
    · simp only [hless, decide_true, if_true]
      exact wpS_pure (h x hax (by omega) hs' (.inr hless))
    · simp only [hless, decide_false, Bool.false_eq_true, if_false]
      refine wpS_pure ⟨rfl, rfl, fun i j h1 hij hj => ?_⟩
      by_cases hjx : j < lo + x
      · exact hs' i j h1 hij hjx
      · have hj' : j = lo + x := by omega
        subst hj'
        by_cases hi' : i = lo + x
        · subst hi'; exact Int.le_refl _
        · exact Int.le_trans (hs' i (lo + x - 1) h1 (by omega) (by omega)) (Int.not_lt.mp hless)

abbrev RunQ (a₀ : Array Keyed) (lo nrem : Nat) (st : SortSt) (Q : Option Nat → SortSt → Prop) : Prop :=
  ∀ m st', SB a₀ st' → pendingOf st' = pendingOf st → Loc2 lo (lo + nrem) (arrOf st) (arrOf st') → 1 ≤ m → m ≤ nrem → Up (arrOf st') lo (lo + m) → Q (some m) st'

theorem wpS_endG {st₀ st : SortSt} {lo n nrem : Nat} {Q : Option Nat → SortSt → Prop} (h0 : IntKeys a₀) (hn : lo + nrem ≤ a₀.size) (h1 : 1 ≤ n) (hnn : n ≤ nrem) (hB : SB a₀ st) (hp : pendingOf st = pendingOf st₀) (hl : Loc2 lo (lo + nrem) (arrOf st₀) (arrOf st))
    (hs : Dn (arrOf st) lo (lo + n)) (h : RunQ a₀ lo nrem st₀ Q) : wpS (model prog w) A E s (endG lo n nrem) Q st := by
  unfold endG
  have hsz : lo + n ≤ (arrOf st).size := by rw [hB.size]; omega
  refine wpS_bind (wpS_reverse ?_)
  have hB' : SB a₀ (setArr st (mirror (arrOf st) lo (lo + n) ((lo + n - lo) / 2))) := hB.arr (mirror_perm _ _ _ _)
  refine wpS_bind (wpS_ascG h0 hn h1 hnn hB' ?_ fun m hm1 hm2 hsm _ => wpS_pure (h m _ hB' hp (hl.trans (.mirror (Nat.le_refl _) (by omega) hsz)) (by omega) hm2 hsm))
  intro i j h2 hij hj
  show K (mirror (arrOf st) lo (lo + n) ((lo + n - lo) / 2)) i ≤ K (mirror (arrOf st) lo (lo + n) ((lo + n - lo) / 2)) j
  rw [K_mirror hsz, K_mirror hsz, if_pos (by omega), if_pos (by omega)]
  exact hs _ _ (by omega) (by omega) (by omega)

theorem wpS_descG {st₀ st : SortSt} {lo n nrem : Nat} {Q : DescSt → SortSt → Prop} (h0 : IntKeys a₀) (hn : lo + nrem ≤ a₀.size) (h1 : 1 ≤ n) (hnn : n ≤ nrem) (hB : SB a₀ st) (hp : pendingOf st = pendingOf st₀) (hl : Loc2 lo (lo + nrem) (arrOf st₀) (arrOf st)) (hs : Dn (arrOf st) lo (lo + n))
    (h : ∀ m neq st', SB a₀ st' → pendingOf st' = pendingOf st₀ → Loc2 lo (lo + nrem) (arrOf st₀) (arrOf st') → n ≤ m → m ≤ nrem → Dn (arrOf st') lo (lo + m) → neq + 1 ≤ m → (∀ i, lo + m - (neq + 1) ≤ i → i < lo + m → K (arrOf st') i = K (arrOf st') (lo + m - 1)) → Q (none, m, neq) st') :
    wpS (model prog w) A E s (descG lo n nrem) Q st := by
  unfold descG
  refine wpS_forRange (I := fun x c st' => ∃ neq, c = (none, x, neq) ∧ SB a₀ st' ∧ pendingOf st' = pendingOf st₀ ∧ Loc2 lo (lo + nrem) (arrOf st₀) (arrOf st') ∧ Dn (arrOf st') lo (lo + x) ∧ neq + 1 ≤ x ∧
      (∀ i, lo + x - (neq + 1) ≤ i → i < lo + x → K (arrOf st') i = K (arrOf st') (lo + x - 1))) ?step ?fin ⟨0, rfl, hB, hp, hl, hs, by omega, fun i h1 h2 => by congr 1; omega⟩
  case fin =>
    rintro c st' ⟨neq, rfl, hB', hp', hl', hs', hq, he⟩
    rw [show max n nrem = nrem by omega] at hs' hq he ⊢
    exact h nrem neq st' hB' hp' hl' hnn (Nat.le_refl _) hs' hq he
  case step =>
    rintro x c st' hax hxn ⟨neq, rfl, hB', hp', hl', hs', hq, he⟩
    dsimp only
    have hsz : lo + x ≤ (arrOf st').size := by rw [hB'.size]; omega
    refine wpS_bind (wpS_ltA hB' h0 (by omega) (by omega) ?_)
    by_cases hless : K (arrOf st') (lo + x) < K (arrOf st') (lo + x - 1)
    · simp only [hless, decide_true, if_true]
      have step1 : ∀ xs : Array Keyed, (∀ k, K xs k = K (arrOf st') k) → Dn xs lo (lo + (x + 1)) := by
        intro xs hk i j h2 hij hj
        rw [hk, hk]
        by_cases hjx : j < lo + x
        · exact hs' i j h2 hij hjx
        · have hj' : j = lo + x := by omega
          subst hj'
          by_cases hi' : i = lo + x
          · subst hi'; exact Int.le_refl _
          · exact Int.le_trans (Int.le_of_lt hless) (hs' i (lo + x - 1) h2 (by omega) (by omega))
      by_cases hneq : neq > 0
      · rw [if_pos hneq]
        exact wpS_bind (wpS_reverse (wpS_pure ⟨0, rfl, hB'.arr (mirror_perm _ _ _ _), hp', hl'.trans (.mirror (by omega) (by omega) hsz), step1 _ (mirror_same hsz he), by omega, fun i h1 h2 => by congr 1; omega⟩))
      · rw [if_neg hneq]
        exact wpS_pure ⟨0, rfl, hB', hp', hl', step1 _ (fun _ => rfl), by omega, fun i h1 h2 => by congr 1; omega⟩
    · simp only [hless, decide_false, Bool.false_eq_true, if_false]
      refine wpS_bind (wpS_ltA hB' h0 (by omega) (by omega) ?_)
      by_cases hlarger : K (arrOf st') (lo + x - 1) < K (arrOf st') (lo + x)
      · simp only [hlarger, decide_true, if_true]
        exact wpS_pure (h x neq st' hB' hp' hl' hax (by omega) hs' hq he)
      · simp only [hlarger, decide_false, Bool.false_eq_true, if_false]
        have heqx : K (arrOf st') (lo + x) = K (arrOf st') (lo + x - 1) := by omega
        refine wpS_pure ⟨neq + 1, rfl, hB', hp', hl', fun i j h2 hij hj => ?_, by omega, fun i h1 h2 => ?_⟩
        · by_cases hjx : j < lo + x
          · exact hs' i j h2 hij hjx
          · have hj' : j = lo + x := by omega
            subst hj'
            by_cases hi' : i = lo + x
            · subst hi'; exact Int.le_refl _
            · rw [heqx]; exact hs' i (lo + x - 1) h2 (by omega) (by omega)
        · rw [show lo + (x + 1) - 1 = lo + x by omega]
          by_cases hix : i = lo + x
          · subst hix; rfl
          · rw [heqx]; exact he i (by omega) (by omega)

theorem wpS_fallG {st₀ st : SortSt} {lo n nrem : Nat} {Q : Option Nat → SortSt → Prop} (h0 : IntKeys a₀) (hn : lo + nrem ≤ a₀.size) (hnn : n + 1 ≤ nrem) (hB : SB a₀ st) (hp : pendingOf st = pendingOf st₀) (hl : Loc2 lo (lo + nrem) (arrOf st₀) (arrOf st))
    (hs : Dn (arrOf st) lo (lo + (n + 1))) (h : RunQ a₀ lo nrem st₀ Q) : wpS (model prog w) A E s (fallG lo n nrem) Q st := by
  unfold fallG
  refine wpS_bind (wpS_lift (wpAny_rule ⟨rfl, ?_⟩))
  refine wpS_bind (wpS_descG h0 hn (by omega) hnn hB hp hl hs fun m neq st' hB' hp' hl' hm1 hm2 hs' hq he => ?_)
  dsimp only
  have hsz : lo + m ≤ (arrOf st').size := by rw [hB'.size]; omega
  by_cases hneq : neq > 0
  · rw [if_pos hneq]
    refine wpS_bind (wpS_reverse (wpS_endG h0 hn (by omega) hm2 (hB'.arr (mirror_perm _ _ _ _)) hp' (hl'.trans (.mirror (by omega) (by omega) hsz)) ?_ h))
    intro i j h2 hij hj
    show K (mirror (arrOf st') _ _ _) j ≤ K (mirror (arrOf st') _ _ _) i
    rw [mirror_same hsz he, mirror_same hsz he]
    exact hs' i j h2 hij hj
  · rw [if_neg hneq]
    exact wpS_endG h0 hn (by omega) hm2 hB' hp' hl' hs' h

theorem wpS_count {st : SortSt} {lo nrem : Nat} {Q : Option Nat → SortSt → Prop} (h0 : IntKeys a₀) (hn : lo + nrem ≤ a₀.size) (h1 : 1 ≤ nrem) (hB : SB a₀ st) (h : RunQ a₀ lo nrem st Q) :
    wpS (model prog w) A E s (countRun' lo nrem) Q st := by
  rw [countG_eq]
  refine wpS_bind (wpS_ascG h0 hn (Nat.le_refl 1) h1 hB (.one _ _) fun n hn1 hn2 hsn hor => ?_)
  dsimp only
  by_cases hnn : n = nrem
  · rw [if_pos (by simpa using hnn)]
    exact wpS_pure (h n st hB rfl .rfl hn1 hn2 hsn)
  · rw [if_neg (by simpa using hnn)]
    have hlt : K (arrOf st) (lo + n) < K (arrOf st) (lo + n - 1) := hor.resolve_left hnn
    by_cases hgt : n > 1
    · rw [if_pos hgt]
      refine wpS_bind (wpS_ltA hB h0 (by omega) (by omega) ?_)
      by_cases hrose : K (arrOf st) lo < K (arrOf st) (lo + n - 1)
      · simp only [hrose, decide_true, if_true]
        exact wpS_pure (h n st hB rfl .rfl hn1 hn2 hsn)
      · simp only [hrose, decide_false, Bool.false_eq_true, if_false]
        have hsz : lo + n ≤ (arrOf st).size := by rw [hB.size]; omega
        have hall : ∀ k, lo ≤ k → k < lo + n → K (arrOf st) k = K (arrOf st) (lo + n - 1) := by
          intro k hk0 hk
          have a1 := hsn lo k (by omega) hk0 hk
          have a2 := hsn k (lo + n - 1) hk0 (by omega) (by omega)
          omega
        refine wpS_bind (wpS_reverse (wpS_fallG h0 hn (by omega) (st₀ := st) (hB.arr (mirror_perm _ _ _ _)) rfl (.mirror (Nat.le_refl _) (by omega) hsz) ?_ h))
        intro i j h2 hij hj
        show K (mirror (arrOf st) _ _ _) j ≤ K (mirror (arrOf st) _ _ _) i
        rw [mirror_same hsz hall, mirror_same hsz hall]
        by_cases hjn : j < lo + n
        · rw [hall i (by omega) (by omega), hall j (by omega) hjn]; exact Int.le_refl _
        · have hj' : j = lo + n := by omega
          subst hj'
          by_cases hi' : i = lo + n
          · subst hi'; exact Int.le_refl _
          · rw [hall i (by omega) (by omega)]; exact Int.le_of_lt hlt
    · rw [if_neg hgt]
      have hn1' : n = 1 := by omega
      subst hn1'
      refine wpS_fallG h0 hn (by omega) hB rfl .rfl ?_ h
      intro i j h2 hij hj
      by_cases hi' : i = j
      · subst hi'; exact Int.le_refl _
      · have hi0 : i = lo := by omega
        have hj1 : j = lo + 1 := by omega
        subst hi0; subst hj1
        exact Int.le_of_lt hlt
end
end MineS

namespace MineS
open PySem PyProof.Rows

def gallop' : Bool → Keyed → Array Keyed → Nat → Nat → Nat → StateT SortSt Sem (Option Nat) := sortPriv% PySem.Builtin.gallop
def beyond' (left : Bool) (key : Keyed) (arr : Array Keyed) (base i : Nat) : StateT SortSt Sem (Option Bool) := do
  let x ← elem' arr (base + i)
  if left then lt' x key else return (← lt' key x).map (!·)
theorem gallop'_eq (left : Bool) (key : Keyed) (arr : Array Keyed) (base n hint : Nat) : gallop' left key arr base n hint = (do
  let mut lastofs := 0
  let mut ofs := 1
  let mut lo := 0
  let mut hi := 0
  let some right ← beyond' left key arr base hint | return none
  if right then
    let maxofs := n - hint
    for _ in [0:n] do
      if ofs ≥ maxofs then break
      let some more ← beyond' left key arr base (hint + ofs) | return none
      if !more then break
      lastofs := ofs
      ofs := 2 * ofs + 1
    lo := hint + lastofs + 1
    hi := hint + min ofs maxofs
  else
    let maxofs := hint + 1
    for _ in [0:n] do
      if ofs ≥ maxofs then break
      let some found ← beyond' left key arr base (hint - ofs) | return none
      if found then break
      lastofs := ofs
      ofs := 2 * ofs + 1
    lo := hint + 1 - min ofs maxofs
    hi := hint - lastofs
  for _ in [0:n] do
    if lo ≥ hi then break
    let m := lo + (hi - lo) / 2
    let some more ← beyond' left key arr base m | return none
    if more then lo := m + 1 else hi := m
  return some hi) := rfl

def bey (left : Bool) (kv : Int) (xs : Array Keyed) (base i : Nat) : Bool := if left then decide (K xs (base + i) < kv) else !decide (kv < K xs (base + i))

section
variable {prog : Program} {w : World} {A : Around} {E : Value → Shared → Prop} {s : Shared} {a₀ : Array Keyed}

theorem wpS_beyond {st : SortSt} {left : Bool} {kv : Int} {t : Tok} {q : Value} {arr : Array Keyed} {base i : Nat} {Q : Option Bool → SortSt → Prop} (hk : kindOf st = oneType') (hI : IntKeys arr) (hi : base + i < arr.size) (h : Q (some (bey left kv arr base i)) st) :
    wpS (model prog w) A E s (beyond' left (.int kv t, q) arr base i) Q st := by
  obtain ⟨u, p, e⟩ := ikAt hI hi
  unfold beyond'
  refine wpS_bind (wpS_elem e ?_)
  cases left with
  | true =>
    rw [if_pos rfl]
    exact wpS_lt hk h
  | false =>
    rw [if_neg (by decide)]
    exact wpS_bind (wpS_lt hk (wpS_pure h))

theorem wpS_gallop {st : SortSt} {left : Bool} {kv : Int} {t : Tok} {q : Value} {arr : Array Keyed} {base n hint : Nat} {Q : Option Nat → SortSt → Prop} (hk : kindOf st = oneType') (hI : IntKeys arr) (hn : base + n ≤ arr.size) (hh : hint < n)
    (hm : ∀ i j, i ≤ j → j < n → bey left kv arr base j = true → bey left kv arr base i = true)
    (h : ∀ k, k ≤ n → (∀ i, i < k → bey left kv arr base i = true) → (∀ i, k ≤ i → i < n → bey left kv arr base i = false) → Q (some k) st) :
    wpS (model prog w) A E s (gallop' left (.int kv t, q) arr base n hint) Q st := by
  have hm' : ∀ i j, i ≤ j → j < n → bey left kv arr base i = false → bey left kv arr base j = false := fun i j h1 h2 h3 => by
    cases e : bey left kv arr base j with
    | false => rfl
    | true => rw [hm i j h1 h2 e] at h3; cases h3
  rw [gallop'_eq]
  dsimp only
  refine wpS_bind (wpS_beyond hk hI (by omega) ?_)
  dsimp only
  have search : ∀ (body : Nat → Option (Option Nat) × Nat × Nat → StateT SortSt Sem (ForInStep (Option (Option Nat) × Nat × Nat))) (fin : Option (Option Nat) × Nat × Nat → StateT SortSt Sem (Option Nat)),
      (∀ x l r, l ≥ r → body x (none, l, r) = pure (ForInStep.done (none, l, r))) →
      (∀ x l r (Q' : ForInStep (Option (Option Nat) × Nat × Nat) → SortSt → Prop), ¬ l ≥ r → l + (r - l) / 2 < n → (bey left kv arr base (l + (r - l) / 2) = true → Q' (.yield (none, l + (r - l) / 2 + 1, r)) st) → (bey left kv arr base (l + (r - l) / 2) = false → Q' (.yield (none, l, l + (r - l) / 2)) st) → wpS (model prog w) A E s (body x (none, l, r)) Q' st) →
      (∀ l r, fin (none, l, r) = pure (some r)) →
      ∀ (lo hi : Nat), lo ≤ hi → hi ≤ n → (∀ i, i < lo → bey left kv arr base i = true) → (∀ i, hi ≤ i → i < n → bey left kv arr base i = false) →
      wpS (model prog w) A E s (forIn [0:n] (none, lo, hi) body >>= fin) Q st := by
    intro body fin b1 b2 b3
    intro lo hi h1 h2 h3 h4
    refine wpS_bind (wpS_mono (wpS_forRange (I := fun x c st' => st' = st ∧ ∃ l r, c = (none, l, r) ∧ l ≤ r ∧ r ≤ n ∧ r - l ≤ n - x ∧ (∀ i, i < l → bey left kv arr base i = true) ∧ (∀ i, r ≤ i → i < n → bey left kv arr base i = false))
      (Q := fun c st' => st' = st ∧ ∃ l, c = (none, l, l) ∧ l ≤ n ∧ (∀ i, i < l → bey left kv arr base i = true) ∧ (∀ i, l ≤ i → i < n → bey left kv arr base i = false)) ?step ?fin ⟨rfl, lo, hi, rfl, h1, h2, by omega, h3, h4⟩) ?post)
    case post =>
      rintro c st' ⟨rfl, l, rfl, a1, a2, a3⟩
      rw [b3]
      exact wpS_pure (h l a1 a2 a3)
    case fin =>
      rintro c st' ⟨rfl, l, r, rfl, a1, a2, a3, a4, a5⟩
      have : l = r := by omega
      subst this
      exact ⟨rfl, l, rfl, a2, a4, a5⟩
    case step =>
      rintro x c st' _ hx ⟨rfl, l, r, rfl, a1, a2, a3, a4, a5⟩
      by_cases hge : l ≥ r
      · rw [b1 _ _ _ hge]
        have : l = r := by omega
        subst this
        exact wpS_pure ⟨rfl, l, rfl, a2, a4, a5⟩
      · refine b2 x l r _ hge (by omega) (fun e => ?_) fun e => ?_
        · exact ⟨rfl, l + (r - l) / 2 + 1, r, rfl, by omega, a2, by omega, fun i hi => hm i _ (by omega) (by omega) e, a5⟩
        · exact ⟨rfl, l, l + (r - l) / 2, rfl, by omega, by omega, by omega, a4, fun i hi hi2 => hm' _ i hi hi2 e⟩
  cases e0 : bey left kv arr base hint with
  | true =>
    rw [if_pos rfl]
    refine wpS_bind (wpS_mono (wpS_forRange (I := fun x c st' => st' = st ∧ ∃ l o, c = (none, l, o) ∧ l < o ∧ x + 1 ≤ o ∧ hint + l < n ∧ bey left kv arr base (hint + l) = true)
      (Q := fun c st' => st' = st ∧ ∃ l o, c = (none, l, o) ∧ l < o ∧ hint + l < n ∧ bey left kv arr base (hint + l) = true ∧ (n - hint ≤ o ∨ bey left kv arr base (hint + o) = false)) ?step ?fin ⟨rfl, 0, 1, rfl, by omega, by omega, by omega, e0⟩) ?post)
    case post =>
      rintro c st' ⟨rfl, l, o, rfl, a1, a2, a3, a4⟩
      dsimp only
      refine search _ _ (fun x l r hge => by dsimp only; rw [if_pos hge]) (fun x l r Q' hge hlt c1 c2 => ?_) (fun l r => rfl) (hint + l + 1) (hint + min o (n - hint)) (by omega) (by omega) (fun i hi => hm i (hint + l) (by omega) a2 a3) fun i hi hi2 => ?_
      · dsimp only
        rw [if_neg hge]
        refine wpS_bind (wpS_beyond hk hI (by omega) ?_)
        dsimp only
        cases e : bey left kv arr base (l + (r - l) / 2) with
        | true => rw [if_pos rfl]; exact wpS_pure (c1 e)
        | false => rw [if_neg (by decide)]; exact wpS_pure (c2 e)
      · rcases a4 with a4 | a4
        · omega
        · by_cases ho : n - hint ≤ o
          · omega
          · exact hm' (hint + o) i (by omega) hi2 a4
    case fin =>
      rintro c st' ⟨rfl, l, o, rfl, a1, a2, a3, a4⟩
      exact ⟨rfl, l, o, rfl, a1, a3, a4, .inl (by omega)⟩
    case step =>
      rintro x c st' _ hx ⟨rfl, l, o, rfl, a1, a2, a3, a4⟩
      dsimp only
      by_cases hge : o ≥ n - hint
      · rw [if_pos hge]
        exact wpS_pure ⟨rfl, l, o, rfl, a1, a3, a4, .inl hge⟩
      · rw [if_neg hge]
        refine wpS_bind (wpS_beyond hk hI (by omega) ?_)
        dsimp only
        cases e : bey left kv arr base (hint + o) with
        | true =>
          rw [if_neg (by decide)]
          exact wpS_pure ⟨rfl, o, 2 * o + 1, rfl, by omega, by omega, by omega, e⟩
        | false =>
          rw [if_pos (show (!false) = true from rfl)]
          exact wpS_pure ⟨rfl, l, o, rfl, a1, a3, a4, .inr e⟩
  | false =>
    rw [if_neg (by decide)]
    refine wpS_bind (wpS_mono (wpS_forRange (I := fun x c st' => st' = st ∧ ∃ l o, c = (none, l, o) ∧ l < o ∧ x + 1 ≤ o ∧ l ≤ hint ∧ bey left kv arr base (hint - l) = false)
      (Q := fun c st' => st' = st ∧ ∃ l o, c = (none, l, o) ∧ l < o ∧ l ≤ hint ∧ bey left kv arr base (hint - l) = false ∧ (hint + 1 ≤ o ∨ bey left kv arr base (hint - o) = true)) ?step ?fin ⟨rfl, 0, 1, rfl, by omega, by omega, by omega, e0⟩) ?post)
    case post =>
      rintro c st' ⟨rfl, l, o, rfl, a1, a2, a3, a4⟩
      dsimp only
      refine search _ _ (fun x l r hge => by dsimp only; rw [if_pos hge]) (fun x l r Q' hge hlt c1 c2 => ?_) (fun l r => rfl) (hint + 1 - min o (hint + 1)) (hint - l) (by omega) (by omega) (fun i hi => ?_) fun i hi hi2 => hm' (hint - l) i (by omega) hi2 a3
      · dsimp only
        rw [if_neg hge]
        refine wpS_bind (wpS_beyond hk hI (by omega) ?_)
        dsimp only
        cases e : bey left kv arr base (l + (r - l) / 2) with
        | true => rw [if_pos rfl]; exact wpS_pure (c1 e)
        | false => rw [if_neg (by decide)]; exact wpS_pure (c2 e)
      · rcases a4 with a4 | a4
        · omega
        · by_cases ho : hint + 1 ≤ o
          · omega
          · exact hm i (hint - o) (by omega) (by omega) a4
    case fin =>
      rintro c st' ⟨rfl, l, o, rfl, a1, a2, a3, a4⟩
      exact ⟨rfl, l, o, rfl, a1, a3, a4, .inl (by omega)⟩
    case step =>
      rintro x c st' _ hx ⟨rfl, l, o, rfl, a1, a2, a3, a4⟩
      dsimp only
      by_cases hge : o ≥ hint + 1
      · rw [if_pos hge]
        exact wpS_pure ⟨rfl, l, o, rfl, a1, a3, a4, .inl hge⟩
      · rw [if_neg hge]
        refine wpS_bind (wpS_beyond hk hI (by omega) ?_)
        dsimp only
        cases e : bey left kv arr base (hint - o) with
        | true =>
          rw [if_pos rfl]
          exact wpS_pure ⟨rfl, l, o, rfl, a1, a3, a4, .inr e⟩
        | false =>
          rw [if_neg (by decide)]
          exact wpS_pure ⟨rfl, o, 2 * o + 1, rfl, by omega, by omega, by omega, e⟩

/-- the two ways to gallop, in a rising stretch -/
theorem wpS_right {st : SortSt} {kv : Int} {t : Tok} {q : Value} {arr : Array Keyed} {base n hint : Nat} {Q : Option Nat → SortSt → Prop} (hk : kindOf st = oneType') (hI : IntKeys arr) (hn : base + n ≤ arr.size) (hh : hint < n) (hs : Up arr base (base + n))
    (h : ∀ k, k ≤ n → (∀ i, i < k → K arr (base + i) ≤ kv) → (∀ i, k ≤ i → i < n → kv < K arr (base + i)) → Q (some k) st) : wpS (model prog w) A E s (gallop' false (.int kv t, q) arr base n hint) Q st := by
  refine wpS_gallop hk hI hn hh (fun i j h1 h2 h3 => ?_) fun k h1 h2 h3 => h k h1 (fun i hi => ?_) fun i hi hi2 => ?_
  · have := hs (base + i) (base + j) (by omega) (by omega) (by omega)
    simp [bey] at h3 ⊢; omega
  · have := h2 i hi; simpa [bey] using this
  · have := h3 i hi hi2; simpa [bey] using this
theorem wpS_left {st : SortSt} {kv : Int} {t : Tok} {q : Value} {arr : Array Keyed} {base n hint : Nat} {Q : Option Nat → SortSt → Prop} (hk : kindOf st = oneType') (hI : IntKeys arr) (hn : base + n ≤ arr.size) (hh : hint < n) (hs : Up arr base (base + n))
    (h : ∀ k, k ≤ n → (∀ i, i < k → K arr (base + i) < kv) → (∀ i, k ≤ i → i < n → kv ≤ K arr (base + i)) → Q (some k) st) : wpS (model prog w) A E s (gallop' true (.int kv t, q) arr base n hint) Q st := by
  refine wpS_gallop hk hI hn hh (fun i j h1 h2 h3 => ?_) fun k h1 h2 h3 => h k h1 (fun i hi => ?_) fun i hi hi2 => ?_
  · have := hs (base + i) (base + j) (by omega) (by omega) (by omega)
    simp [bey] at h3 ⊢; omega
  · have := h2 i hi; simpa [bey] using this
  · have := h3 i hi hi2; simpa [bey] using this
end
end MineS

namespace MineS
open PySem PyProof.Rows

def VK (p : Keyed) : Int := numOf p.1
def SrtK (l : List Keyed) : Prop := l.Pairwise (fun x y => VK x ≤ VK y)
/-- a merge from the front: what is out, and how far both are read -/
structure MI (a b o : List Keyed) (i j : Nat) : Prop where
  perm : o.Perm (a.take i ++ b.take j)
  srt : SrtK o
  la : ∀ x ∈ o, ∀ y ∈ a.drop i, VK x ≤ VK y
  lb : ∀ x ∈ o, ∀ y ∈ b.drop j, VK x ≤ VK y
theorem MI.swap {a b o : List Keyed} {i j : Nat} (h : MI a b o i j) : MI b a o j i := ⟨h.perm.trans List.perm_append_comm, h.srt, h.lb, h.la⟩
theorem MI.addA {a b o : List Keyed} {i j : Nat} (h : MI a b o i j) (ha : SrtK a) (k : Nat) (hk : ∀ x ∈ (a.drop i).take k, ∀ y ∈ b.drop j, VK x ≤ VK y) : MI a b (o ++ (a.drop i).take k) (i + k) j := by
  have hd : SrtK (a.drop i) := ha.sublist (List.drop_sublist _ _)
  have hsp : (a.drop i) = (a.drop i).take k ++ a.drop (i + k) := by rw [← List.drop_drop, List.take_append_drop]
  have hd2 := hd
  rw [hsp] at hd2
  obtain ⟨p1, p2, p3⟩ := List.pairwise_append.mp hd2
  refine ⟨?_, ?_, ?_, ?_⟩
  · rw [List.take_add]
    refine (h.perm.append_right _).trans ?_
    rw [List.append_assoc, List.append_assoc]
    exact List.Perm.append_left _ List.perm_append_comm
  · exact List.pairwise_append.mpr ⟨h.srt, p1, fun x hx y hy => h.la x hx y (List.mem_of_mem_take hy)⟩
  · intro x hx y hy
    rcases List.mem_append.mp hx with hx | hx
    · exact h.la x hx y (by rw [← List.drop_drop] at hy; exact List.mem_of_mem_drop hy)
    · exact p3 x hx y hy
  · intro x hx y hy
    rcases List.mem_append.mp hx with hx | hx
    · exact h.lb x hx y hy
    · exact hk x hx y hy
theorem MI.done {a b o : List Keyed} {i j : Nat} (h : MI a b o i j) (hi : a.length ≤ i) (hj : b.length ≤ j) : o.Perm (a ++ b) ∧ SrtK o := by
  refine ⟨?_, h.srt⟩
  have := h.perm
  rwa [List.take_of_length_le hi, List.take_of_length_le hj] at this

def mergeLo' : Array Keyed → Array Keyed → StateT SortSt Sem (Array Keyed) := sortPriv% PySem.Builtin.mergeLo
def setMinGallop' : Nat → StateT SortSt Sem Unit := sortPriv% PySem.Builtin.setMinGallop
def doneLo (a b out : Array Keyed) (ia ib : Nat) : Array Keyed := out ++ a.extract ia a.size ++ b.extract ib b.size
def lastLo (a b out : Array Keyed) (ia ib : Nat) : Array Keyed := out ++ b.extract ib b.size ++ a.extract ia a.size
theorem setMinGallop'_eq (g : Nat) : setMinGallop' g = modify fun s => SortSt.mk' (kindOf s) (arrOf s) (pendingOf s) g (failedOf s) := rfl

abbrev LoS := Option (Array Keyed) × Array Keyed × Nat × Nat × Nat
abbrev LoS1 := Option (Array Keyed) × Array Keyed × Nat × Nat × Nat × Nat
abbrev LoS2 := Option (Array Keyed) × Array Keyed × Nat × Nat × Nat × Nat × Nat
def lo1 (a b : Array Keyed) (mg : Nat) (r : LoS1) : StateT SortSt Sem (ForInStep LoS1) := do
  let p ← elem' b r.2.2.2.1
  let q ← elem' a r.2.2.1
  let x ← lt' p q
  match x with
  | some bWins =>
    if bWins = true then do
      let p ← elem' b r.2.2.2.1
      if (r.2.2.2.1 + 1 == b.size) = true then pure (.done (some (doneLo a b (r.2.1.push p) r.2.2.1 (r.2.2.2.1 + 1)), r.2.1.push p, r.2.2.1, r.2.2.2.1 + 1, 0, r.2.2.2.2.2 + 1))
      else if r.2.2.2.2.2 + 1 ≥ mg then pure (.done (none, r.2.1.push p, r.2.2.1, r.2.2.2.1 + 1, 0, r.2.2.2.2.2 + 1))
      else pure (.yield (none, r.2.1.push p, r.2.2.1, r.2.2.2.1 + 1, 0, r.2.2.2.2.2 + 1))
    else do
      let q ← elem' a r.2.2.1
      if (r.2.2.1 + 1 + 1 == a.size) = true then pure (.done (some (lastLo a b (r.2.1.push q) (r.2.2.1 + 1) r.2.2.2.1), r.2.1.push q, r.2.2.1 + 1, r.2.2.2.1, r.2.2.2.2.1 + 1, 0))
      else if r.2.2.2.2.1 + 1 ≥ mg then pure (.done (none, r.2.1.push q, r.2.2.1 + 1, r.2.2.2.1, r.2.2.2.2.1 + 1, 0))
      else pure (.yield (none, r.2.1.push q, r.2.2.1 + 1, r.2.2.2.1, r.2.2.2.2.1 + 1, 0))
  | _ => pure (.done (some (doneLo a b r.2.1 r.2.2.1 r.2.2.2.1), r.2.1, r.2.2.1, r.2.2.2.1, r.2.2.2.2.1, r.2.2.2.2.2))
def loD (a b out : Array Keyed) (ia ib mg ac bc : Nat) : StateT SortSt Sem (ForInStep LoS2) := do
  let q ← elem' a ia
  if (ia + 1 + 1 == a.size) = true then pure (.done (some (lastLo a b (out.push q) (ia + 1) ib), out.push q, ia + 1, ib, mg, ac, bc))
  else if (decide (ac < 7) && decide (bc < 7)) = true then pure (.done (none, out.push q, ia + 1, ib, mg, ac, bc))
  else pure (.yield (none, out.push q, ia + 1, ib, mg, ac, bc))
def loB (a b out : Array Keyed) (ia ib mg ac bc : Nat) : StateT SortSt Sem (ForInStep LoS2) := do
  let p ← elem' b ib
  if (ib + 1 == b.size) = true then pure (.done (some (doneLo a b (out.push p) ia (ib + 1)), out.push p, ia, ib + 1, mg, ac, bc))
  else do
    let q ← elem' a ia
    let x ← gallop' true q b (ib + 1) (b.size - (ib + 1)) 0
    match x with
    | some k =>
      if k > 0 then
        if (ib + 1 + k == b.size) = true then pure (.done (some (doneLo a b (out.push p ++ b.extract (ib + 1) (ib + 1 + k)) ia (ib + 1 + k)), out.push p ++ b.extract (ib + 1) (ib + 1 + k), ia, ib + 1 + k, mg, ac, k))
        else loD a b (out.push p ++ b.extract (ib + 1) (ib + 1 + k)) ia (ib + 1 + k) mg ac k
      else loD a b (out.push p) ia (ib + 1) mg ac k
    | _ => pure (.done (some (doneLo a b (out.push p) ia (ib + 1)), out.push p, ia, ib + 1, mg, ac, bc))
def loA (a b out : Array Keyed) (ia ib mg ac bc : Nat) : StateT SortSt Sem (ForInStep LoS2) := do
  setMinGallop' mg
  let p ← elem' b ib
  let x ← gallop' false p a ia (a.size - ia) 0
  match x with
  | some k =>
    if k > 0 then
      if (ia + k + 1 == a.size) = true then pure (.done (some (lastLo a b (out ++ a.extract ia (ia + k)) (ia + k) ib), out ++ a.extract ia (ia + k), ia + k, ib, mg, k, bc))
      else if (ia + k == a.size) = true then pure (.done (some (doneLo a b (out ++ a.extract ia (ia + k)) (ia + k) ib), out ++ a.extract ia (ia + k), ia + k, ib, mg, k, bc))
      else loB a b (out ++ a.extract ia (ia + k)) (ia + k) ib mg k bc
    else loB a b out ia ib mg k bc
  | _ => pure (.done (some (doneLo a b out ia ib), out, ia, ib, mg, ac, bc))
def lo2 (a b : Array Keyed) (r : LoS2) : StateT SortSt Sem (ForInStep LoS2) :=
  if r.2.2.2.2.1 > 1 then loA a b r.2.1 r.2.2.1 r.2.2.2.1 (r.2.2.2.2.1 - 1) r.2.2.2.2.2.1 r.2.2.2.2.2.2
  else loA a b r.2.1 r.2.2.1 r.2.2.2.1 r.2.2.2.2.1 r.2.2.2.2.2.1 r.2.2.2.2.2.2
def loOut (a b : Array Keyed) (r : LoS) : StateT SortSt Sem (ForInStep LoS) := do
  let r1 ← forIn [0:a.size + b.size] ((none, r.2.1, r.2.2.1, r.2.2.2.1, 0, 0) : LoS1) fun _ x => lo1 a b r.2.2.2.2 x
  match r1.1 with
  | some v => pure (.done (some v, r1.2.1, r1.2.2.1, r1.2.2.2.1, r.2.2.2.2))
  | none => do
    liftM (rule "list.sort.gallop")
    let r2 ← forIn [0:a.size + b.size] ((none, r1.2.1, r1.2.2.1, r1.2.2.2.1, r.2.2.2.2 + 1, r1.2.2.2.2.1, r1.2.2.2.2.2) : LoS2) fun _ x => lo2 a b x
    match r2.1 with
    | some v => pure (.done (some v, r2.2.1, r2.2.2.1, r2.2.2.2.1, r2.2.2.2.2.1))
    | none => do
      setMinGallop' (r2.2.2.2.2.1 + 1)
      pure (.yield (none, r2.2.1, r2.2.2.1, r2.2.2.2.1, r2.2.2.2.2.1 + 1))
theorem mergeLo'_eq (a b : Array Keyed) : mergeLo' a b = (do
  liftM (rule "list.sort.merge-lo")
  let p ← elem' b 0
  if (1 == b.size) = true then pure (doneLo a b #[p] 0 1)
  else if (0 + 1 == a.size) = true then pure (lastLo a b #[p] 0 1)
  else do
    let st ← get
    let r ← forIn [0:a.size + b.size] ((none, #[p], 0, 1, gallopOf st) : LoS) fun _ x => loOut a b x
    match r.1 with
    | some v => pure v
    | none => liftM (unsupported "internal:list.sort.merge-bound" : Sem (Array Keyed))) := by kernel_rfl

def Res (a b r : Array Keyed) : Prop := r.toList.Perm (a.toList ++ b.toList) ∧ SrtK r.toList
structure Same (st₀ st : SortSt) : Prop where
  kind : kindOf st = kindOf st₀
  arr : arrOf st = arrOf st₀
  pend : pendingOf st = pendingOf st₀
  failed : failedOf st = failedOf st₀
theorem Same.rfl {st : SortSt} : Same st st := ⟨by rfl, by rfl, by rfl, by rfl⟩
theorem VK_get {xs : Array Keyed} {i : Nat} {p : Keyed} (h : xs[i]? = some p) : K xs i = VK p := by unfold K VK; rw [h]
theorem mem_part {xs : Array Keyed} {i k : Nat} {x : Keyed} (h : x ∈ (xs.toList.drop i).take k) : ∃ m, m < k ∧ i + m < xs.size ∧ VK x = K xs (i + m) := by
  obtain ⟨m, hm⟩ := List.mem_iff_getElem?.mp h
  rw [List.getElem?_take] at hm
  split at hm
  · rw [List.getElem?_drop] at hm
    have h1 : xs[i + m]? = some x := by simpa using hm
    exact ⟨m, by assumption, (Array.getElem?_eq_some_iff.mp h1).1, (VK_get h1).symm⟩
  · cases hm
theorem mem_rest {xs : Array Keyed} {i : Nat} {x : Keyed} (h : x ∈ xs.toList.drop i) : ∃ m, i ≤ m ∧ m < xs.size ∧ VK x = K xs m := by
  obtain ⟨m, hm⟩ := List.mem_iff_getElem?.mp h
  rw [List.getElem?_drop] at hm
  have h1 : xs[i + m]? = some x := by simpa using hm
  exact ⟨i + m, by omega, (Array.getElem?_eq_some_iff.mp h1).1, (VK_get h1).symm⟩
theorem upOf {xs : Array Keyed} (h : SrtK xs.toList) : ∀ i j, i ≤ j → j < xs.size → K xs i ≤ K xs j := fun i j h1 h2 => by
  rcases Nat.lt_or_eq_of_le h1 with h3 | rfl
  · have := List.pairwise_iff_getElem.mp h i j (by simpa using (by omega : i < xs.size)) (by simpa using h2) h3
    rw [K_eq (by omega), K_eq h2]
    simpa [VK] using this
  · exact Int.le_refl _

section
variable {prog : Program} {w : World} {A : Around} {E : Value → Shared → Prop} {s : Shared} {a b out : Array Keyed} {ia ib : Nat}

theorem MI.extA (h : MI a.toList b.toList out.toList ia ib) (ha : SrtK a.toList) (k : Nat) (hk : ∀ m, m < k → ia + m < a.size → ∀ j, ib ≤ j → j < b.size → K a (ia + m) ≤ K b j) : MI a.toList b.toList (out ++ a.extract ia (ia + k)).toList (ia + k) ib := by
  have := h.addA ha k fun x hx y hy => by
    obtain ⟨m, h1, h2, e1⟩ := mem_part hx
    obtain ⟨j, h3, h4, e2⟩ := mem_rest hy
    rw [e1, e2]; exact hk m h1 h2 j h3 h4
  rw [Array.toList_append, Array.toList_extract, List.extract_eq_take_drop]
  rwa [show ia + k - ia = k by omega]
theorem MI.extB (h : MI a.toList b.toList out.toList ia ib) (hb : SrtK b.toList) (k : Nat) (hk : ∀ m, m < k → ib + m < b.size → ∀ j, ia ≤ j → j < a.size → K b (ib + m) ≤ K a j) : MI a.toList b.toList (out ++ b.extract ib (ib + k)).toList ia (ib + k) :=
  (h.swap.extA hb k hk).swap
theorem push_ext {xs out : Array Keyed} {i : Nat} {p : Keyed} (h : xs[i]? = some p) : (out ++ xs.extract i (i + 1)).toList = (out.push p).toList := by
  obtain ⟨h1, rfl⟩ := Array.getElem?_eq_some_iff.mp h
  rw [Array.toList_append, Array.toList_extract, List.extract_eq_take_drop, Array.toList_push, show i + 1 - i = 1 by omega, List.drop_eq_getElem_cons (by simpa using h1)]
  simp
theorem MI.pushA (h : MI a.toList b.toList out.toList ia ib) (ha : SrtK a.toList) {p : Keyed} (hp : a[ia]? = some p) (hk : ∀ j, ib ≤ j → j < b.size → K a ia ≤ K b j) : MI a.toList b.toList (out.push p).toList (ia + 1) ib := by
  rw [← push_ext hp]
  exact h.extA ha 1 fun m h1 _ => by obtain rfl : m = 0 := by omega
                                     exact hk
theorem MI.pushB (h : MI a.toList b.toList out.toList ia ib) (hb : SrtK b.toList) {p : Keyed} (hp : b[ib]? = some p) (hk : ∀ j, ia ≤ j → j < a.size → K b ib ≤ K a j) : MI a.toList b.toList (out.push p).toList ia (ib + 1) := (h.swap.pushA hb hp hk).swap
theorem MI.finD (h : MI a.toList b.toList out.toList ia ib) (ha : SrtK a.toList) (hib : b.size ≤ ib) (hia : ia ≤ a.size) : Res a b (doneLo a b out ia ib) := by
  have h1 := h.extA ha (a.size - ia) fun m _ _ j h2 h3 => by omega
  rw [show ia + (a.size - ia) = a.size by omega] at h1
  have h2 := h1.done (by simp) (by simpa using hib)
  unfold doneLo Res
  rwa [Array.toList_append, show (b.extract ib b.size).toList = [] by simp; omega, List.append_nil]
theorem MI.finL (h : MI a.toList b.toList out.toList ia ib) (ha : SrtK a.toList) (hb : SrtK b.toList) (hia : ia ≤ a.size) (hib : ib ≤ b.size) (hl : ∀ j, ib ≤ j → j < b.size → ∀ i, ia ≤ i → i < a.size → K b j ≤ K a i) : Res a b (lastLo a b out ia ib) := by
  have h1 := h.extB hb (b.size - ib) fun m h1 h2 j h3 h4 => hl (ib + m) (by omega) h2 j h3 h4
  rw [show ib + (b.size - ib) = b.size by omega] at h1
  have h2 := h1.extA ha (a.size - ia) fun m _ _ j h2 h3 => by omega
  rw [show ia + (a.size - ia) = a.size by omega] at h2
  exact h2.done (by simp) (by simp)
end
end MineS

namespace MineS
open PySem PyProof.Rows

structure Pre (a b : Array Keyed) : Prop where
  ha : IntKeys a
  hb : IntKeys b
  sa : SrtK a.toList
  sb : SrtK b.toList
  na : 1 ≤ a.size
  nb : 1 ≤ b.size
  h0 : K b 0 < K a 0
  hl : ∀ j, j < b.size → K b j < K a (a.size - 1)
structure PP (a b out : Array Keyed) (ia ib n : Nat) : Prop where
  mi : MI a.toList b.toList out.toList ia ib
  hi : ia + 1 < a.size
  hj : ib < b.size
  hn : n ≤ ia + ib

section
variable {prog : Program} {w : World} {A : Around} {E : Value → Shared → Prop} {s : Shared} {a b out : Array Keyed} {ia ib n : Nat} {st : SortSt}

theorem Pre.ge (p : Pre a b) {i j : Nat} (h : K b i ≤ K a j) : ∀ m, j ≤ m → m < a.size → K b i ≤ K a m := fun m h1 h2 => Int.le_trans h (upOf p.sa j m h1 h2)
theorem Pre.ge' (p : Pre a b) {i j : Nat} (h : K a i ≤ K b j) : ∀ m, j ≤ m → m < b.size → K a i ≤ K b m := fun m h1 h2 => Int.le_trans h (upOf p.sb j m h1 h2)
theorem Pre.fin (p : Pre a b) (h : MI a.toList b.toList out.toList ia ib) (hi : ia + 1 = a.size) (hj : ib ≤ b.size) : Res a b (lastLo a b out ia ib) :=
  h.finL p.sa p.sb (by omega) hj fun j h1 h2 i h3 h4 => by
    obtain rfl : i = a.size - 1 := by omega
    exact Int.le_of_lt (p.hl j h2)

theorem wpS_lo1 (p : Pre a b) (hk : kindOf st = oneType') (hP : PP a b out ia ib n) {mg ac bc : Nat} {Q : ForInStep LoS1 → SortSt → Prop} (h1 : ∀ v r, Res a b v → Q (.done (some v, r)) st)
    (h2 : ∀ o i j x y, PP a b o i j (n + 1) → Q (.done (none, o, i, j, x, y)) st) (h3 : ∀ o i j x y, PP a b o i j (n + 1) → Q (.yield (none, o, i, j, x, y)) st) :
    wpS (model prog w) A E s (lo1 a b mg (none, out, ia, ib, ac, bc)) Q st := by
  obtain ⟨mi, hi, hj, hn⟩ := hP
  obtain ⟨t, q, e1⟩ := ikAt p.hb hj
  obtain ⟨u, q', e2⟩ := ikAt p.ha (show ia < a.size by omega)
  unfold lo1
  dsimp only
  refine wpS_bind (wpS_elem e1 (wpS_bind (wpS_elem e2 (wpS_bind (wpS_lt hk ?_)))))
  dsimp only
  by_cases hlt : K b ib < K a ia
  · rw [if_pos (decide_eq_true hlt)]
    have mi' := mi.pushB p.sb e1 (p.ge (Int.le_of_lt hlt))
    refine wpS_bind (wpS_elem e1 ?_)
    by_cases he : ib + 1 = b.size
    · rw [if_pos (by simpa using he)]
      exact wpS_pure (h1 _ _ (mi'.finD p.sa (by omega) (by omega)))
    · rw [if_neg (by simpa using he)]
      have pp : PP a b (out.push (.int (K b ib) t, q)) ia (ib + 1) (n + 1) := ⟨mi', hi, by omega, by omega⟩
      split
      · exact wpS_pure (h2 _ _ _ _ _ pp)
      · exact wpS_pure (h3 _ _ _ _ _ pp)
  · rw [if_neg (by simpa using hlt)]
    have mi' := mi.pushA p.sa e2 (p.ge' (Int.not_lt.mp hlt))
    refine wpS_bind (wpS_elem e2 ?_)
    by_cases he : ia + 1 + 1 = a.size
    · rw [if_pos (by simpa using he)]
      exact wpS_pure (h1 _ _ (p.fin mi' he (by omega)))
    · rw [if_neg (by simpa using he)]
      have pp : PP a b (out.push (.int (K a ia) u, q')) (ia + 1) ib (n + 1) := ⟨mi', by omega, hj, by omega⟩
      split
      · exact wpS_pure (h2 _ _ _ _ _ pp)
      · exact wpS_pure (h3 _ _ _ _ _ pp)

theorem wpS_loD (p : Pre a b) (mi : MI a.toList b.toList out.toList ia ib) (hi : ia + 1 < a.size) (hj : ib < b.size) (hn : n ≤ ia + ib) (hle : K a ia ≤ K b ib) {mg ac bc : Nat} {Q : ForInStep LoS2 → SortSt → Prop} (h1 : ∀ v r, Res a b v → Q (.done (some v, r)) st)
    (h2 : ∀ o i j x y z, PP a b o i j n → Q (.done (none, o, i, j, x, y, z)) st) (h3 : ∀ o i j x y z, PP a b o i j n → Q (.yield (none, o, i, j, x, y, z)) st) :
    wpS (model prog w) A E s (loD a b out ia ib mg ac bc) Q st := by
  obtain ⟨u, q', e2⟩ := ikAt p.ha (show ia < a.size by omega)
  unfold loD
  have mi' := mi.pushA p.sa e2 (p.ge' hle)
  refine wpS_bind (wpS_elem e2 ?_)
  by_cases he : ia + 1 + 1 = a.size
  · rw [if_pos (by simpa using he)]
    exact wpS_pure (h1 _ _ (p.fin mi' he (by omega)))
  · rw [if_neg (by simpa using he)]
    have pp : PP a b (out.push (.int (K a ia) u, q')) (ia + 1) ib n := ⟨mi', by omega, hj, by omega⟩
    split
    · exact wpS_pure (h2 _ _ _ _ _ _ pp)
    · exact wpS_pure (h3 _ _ _ _ _ _ pp)

theorem wpS_loB (p : Pre a b) (hk : kindOf st = oneType') (mi : MI a.toList b.toList out.toList ia ib) (hi : ia + 1 < a.size) (hj : ib < b.size) (hn : n ≤ ia + ib) (hlt : K b ib < K a ia) {mg ac bc : Nat} {Q : ForInStep LoS2 → SortSt → Prop} (h1 : ∀ v r, Res a b v → Q (.done (some v, r)) st)
    (h2 : ∀ o i j x y z, PP a b o i j n → Q (.done (none, o, i, j, x, y, z)) st) (h3 : ∀ o i j x y z, PP a b o i j n → Q (.yield (none, o, i, j, x, y, z)) st) :
    wpS (model prog w) A E s (loB a b out ia ib mg ac bc) Q st := by
  obtain ⟨t, q, e1⟩ := ikAt p.hb hj
  obtain ⟨u, q', e2⟩ := ikAt p.ha (show ia < a.size by omega)
  unfold loB
  have mi' := mi.pushB p.sb e1 (p.ge (Int.le_of_lt hlt))
  refine wpS_bind (wpS_elem e1 ?_)
  by_cases he : ib + 1 = b.size
  · rw [if_pos (by simpa using he)]
    exact wpS_pure (h1 _ _ (mi'.finD p.sa (by omega) (by omega)))
  · rw [if_neg (by simpa using he)]
    refine wpS_bind (wpS_elem e2 (wpS_bind (wpS_left hk p.hb (by omega) (by omega) (fun i j h1 h2 h3 => upOf p.sb i j h2 (by omega)) fun k hk1 hk2 hk3 => ?_)))
    dsimp only
    by_cases hk0 : k > 0
    · rw [if_pos hk0]
      have mi2 := mi'.extB p.sb k fun m h1 h2 j h3 h4 => p.ge (Int.le_of_lt (hk2 m h1)) j h3 h4
      by_cases hf : ib + 1 + k = b.size
      · rw [if_pos (by simpa using hf)]
        exact wpS_pure (h1 _ _ (mi2.finD p.sa (by omega) (by omega)))
      · rw [if_neg (by simpa using hf)]
        exact wpS_loD p mi2 hi (by omega) (by omega) (hk3 k (Nat.le_refl _) (by omega)) h1 h2 h3
    · rw [if_neg hk0]
      have := hk3 0 (by omega) (by omega)
      exact wpS_loD p mi' hi (by omega) (by omega) (by simpa using this) h1 h2 h3

theorem wpS_loA (p : Pre a b) (hk : kindOf st = oneType') (hP : PP a b out ia ib n) {mg ac bc : Nat} {Q : ForInStep LoS2 → SortSt → Prop} (h1 : ∀ v r st', Same st st' → Res a b v → Q (.done (some v, r)) st')
    (h2 : ∀ o i j x y z st', Same st st' → PP a b o i j n → Q (.done (none, o, i, j, x, y, z)) st') (h3 : ∀ o i j x y z st', Same st st' → PP a b o i j n → Q (.yield (none, o, i, j, x, y, z)) st') :
    wpS (model prog w) A E s (loA a b out ia ib mg ac bc) Q st := by
  obtain ⟨mi, hi, hj, hn⟩ := hP
  obtain ⟨t, q, e1⟩ := ikAt p.hb hj
  unfold loA
  rw [setMinGallop'_eq]
  refine wpS_bind (wpS_modify ?_)
  have sm : Same st (SortSt.mk' (kindOf st) (arrOf st) (pendingOf st) mg (failedOf st)) := ⟨rfl, rfl, rfl, rfl⟩
  have hk' : kindOf (SortSt.mk' (kindOf st) (arrOf st) (pendingOf st) mg (failedOf st)) = oneType' := hk
  refine wpS_bind (wpS_elem e1 (wpS_bind (wpS_right hk p.ha (by omega) (by omega) (fun i j h1 h2 h3 => upOf p.sa i j h2 (by omega)) fun k hk1 hk2 hk3 => ?_)))
  dsimp only
  have klt : ia + k < a.size := by
    by_cases hx : k < a.size - ia
    · omega
    · have h4 := hk2 (a.size - 1 - ia) (by omega)
      rw [show ia + (a.size - 1 - ia) = a.size - 1 by omega] at h4
      have h5 := p.hl ib hj
      omega
  by_cases hk0 : k > 0
  · rw [if_pos hk0]
    have mi2 := mi.extA p.sa k fun m h1 h2 j h3 h4 => p.ge' (hk2 m h1) j h3 h4
    by_cases hf : ia + k + 1 = a.size
    · rw [if_pos (by simpa using hf)]
      exact wpS_pure (h1 _ _ _ sm (p.fin mi2 hf (by omega)))
    · rw [if_neg (by simpa using hf), if_neg (by simp; omega)]
      exact wpS_loB p hk' mi2 (by omega) hj (by omega) (hk3 k (Nat.le_refl _) (by omega)) (fun v r => h1 v r _ sm) (fun o i j x y z => h2 o i j x y z _ sm) (fun o i j x y z => h3 o i j x y z _ sm)
  · rw [if_neg hk0]
    have h4 := hk3 0 (by omega) (by omega)
    exact wpS_loB p hk' mi hi hj hn (by simpa using h4) (fun v r => h1 v r _ sm) (fun o i j x y z => h2 o i j x y z _ sm) (fun o i j x y z => h3 o i j x y z _ sm)

theorem wpS_lo2 (p : Pre a b) (hk : kindOf st = oneType') (hP : PP a b out ia ib n) {mg ac bc : Nat} {Q : ForInStep LoS2 → SortSt → Prop} (h1 : ∀ v r st', Same st st' → Res a b v → Q (.done (some v, r)) st')
    (h2 : ∀ o i j x y z st', Same st st' → PP a b o i j n → Q (.done (none, o, i, j, x, y, z)) st') (h3 : ∀ o i j x y z st', Same st st' → PP a b o i j n → Q (.yield (none, o, i, j, x, y, z)) st') :
    wpS (model prog w) A E s (lo2 a b (none, out, ia, ib, mg, ac, bc)) Q st := by
  unfold lo2
  dsimp only
  split
  · exact wpS_loA p hk hP h1 h2 h3
  · exact wpS_loA p hk hP h1 h2 h3

theorem PP.less {m : Nat} (h : PP a b out ia ib n) (hm : m ≤ n) : PP a b out ia ib m := ⟨h.mi, h.hi, h.hj, Nat.le_trans hm h.hn⟩
theorem Same.trans {s1 s2 s3 : SortSt} (h : Same s1 s2) (h' : Same s2 s3) : Same s1 s3 := ⟨h'.kind.trans h.kind, h'.arr.trans h.arr, h'.pend.trans h.pend, h'.failed.trans h.failed⟩
theorem Same.gallop {s1 s2 : SortSt} (h : Same s1 s2) (g : Nat) : Same s1 (SortSt.mk' (kindOf s2) (arrOf s2) (pendingOf s2) g (failedOf s2)) := ⟨h.kind, h.arr, h.pend, h.failed⟩

theorem wpS_loOut (p : Pre a b) (hk : kindOf st = oneType') (hP : PP a b out ia ib n) {mg : Nat} {Q : ForInStep LoS → SortSt → Prop} (h1 : ∀ v r st', Same st st' → Res a b v → Q (.done (some v, r)) st')
    (h3 : ∀ o i j x st', Same st st' → PP a b o i j (n + 1) → Q (.yield (none, o, i, j, x)) st') :
    wpS (model prog w) A E s (loOut a b (none, out, ia, ib, mg)) Q st := by
  unfold loOut
  dsimp only
  refine wpS_bind (wpS_mono (wpS_forRange (I := fun y c st' => st' = st ∧ ∃ o i j x z, c = ((none, o, i, j, x, z) : LoS1) ∧ PP a b o i j (n + min y 1))
    (Q := fun c st' => st' = st ∧ ((∃ v r, c = ((some v, r) : LoS1) ∧ Res a b v) ∨ ∃ o i j x z, c = ((none, o, i, j, x, z) : LoS1) ∧ PP a b o i j (n + 1))) ?step ?fin ?init) ?post)
  case init => exact ⟨rfl, _, _, _, _, _, rfl, hP⟩
  case fin =>
    rintro c st' ⟨rfl, o, i, j, x, z, rfl, pp⟩
    exact ⟨rfl, .inr ⟨_, _, _, _, _, rfl, pp.less (by have := p.na; omega)⟩⟩
  case step =>
    rintro y c st' _ hy ⟨rfl, o, i, j, x, z, rfl, pp⟩
    exact wpS_lo1 p hk pp (fun v r hr => ⟨rfl, .inl ⟨v, r, rfl, hr⟩⟩) (fun o i j x y pp => ⟨rfl, .inr ⟨_, _, _, _, _, rfl, pp.less (by omega)⟩⟩) (fun o i j x y pp => ⟨rfl, _, _, _, _, _, rfl, pp.less (by omega)⟩)
  case post =>
    rintro c st' ⟨rfl, ⟨v, r, rfl, hr⟩ | ⟨o, i, j, x, z, rfl, pp⟩⟩
    · exact wpS_pure (h1 _ _ _ .rfl hr)
    · dsimp only
      refine wpS_bind (wpS_lift (wpAny_rule ⟨rfl, ?_⟩))
      refine wpS_bind (wpS_mono (wpS_forRange (I := fun y c st2 => Same st' st2 ∧ ∃ o i j x y z, c = ((none, o, i, j, x, y, z) : LoS2) ∧ PP a b o i j (n + 1))
        (Q := fun c st2 => Same st' st2 ∧ ((∃ v r, c = ((some v, r) : LoS2) ∧ Res a b v) ∨ ∃ o i j x y z, c = ((none, o, i, j, x, y, z) : LoS2) ∧ PP a b o i j (n + 1))) ?step ?fin ?init) ?post)
      case init => exact ⟨.rfl, _, _, _, _, _, _, rfl, pp⟩
      case fin =>
        rintro c st2 ⟨sm, o, i, j, x, y, z, rfl, pp⟩
        exact ⟨sm, .inr ⟨_, _, _, _, _, _, rfl, pp⟩⟩
      case step =>
        rintro y c st2 _ hy ⟨sm, o, i, j, x, y, z, rfl, pp⟩
        exact wpS_lo2 p (sm.kind.trans hk) pp (fun v r st3 sm3 hr => ⟨sm.trans sm3, .inl ⟨v, r, rfl, hr⟩⟩) (fun o i j x y z st3 sm3 pp => ⟨sm.trans sm3, .inr ⟨_, _, _, _, _, _, rfl, pp⟩⟩) (fun o i j x y z st3 sm3 pp => ⟨sm.trans sm3, _, _, _, _, _, _, rfl, pp⟩)
      case post =>
        rintro c st2 ⟨sm, ⟨v, r, rfl, hr⟩ | ⟨o, i, j, x, y, z, rfl, pp⟩⟩
        · exact wpS_pure (h1 _ _ _ sm hr)
        · dsimp only
          rw [setMinGallop'_eq]
          exact wpS_bind (wpS_modify (wpS_pure (h3 _ _ _ _ _ (sm.gallop _) pp)))

theorem wpS_mergeLo (p : Pre a b) (hk : kindOf st = oneType') {Q : Array Keyed → SortSt → Prop} (h : ∀ v st', Same st st' → Res a b v → Q v st') :
    wpS (model prog w) A E s (mergeLo' a b) Q st := by
  rw [mergeLo'_eq]
  have na := p.na
  have nb := p.nb
  refine wpS_bind (wpS_lift (wpAny_rule ⟨rfl, ?_⟩))
  obtain ⟨t, q, e1⟩ := ikAt p.hb (show 0 < b.size from p.nb)
  refine wpS_bind (wpS_elem e1 ?_)
  have mi : MI a.toList b.toList (#[] : Array Keyed).toList 0 0 := ⟨by simp, List.Pairwise.nil, by simp, by simp⟩
  have mi1 : MI a.toList b.toList (#[((.int (K b 0) t, q) : Keyed)]).toList 0 1 := mi.pushB p.sb e1 (p.ge (Int.le_of_lt p.h0))
  by_cases hb1 : 1 = b.size
  · rw [if_pos (by simpa using hb1)]
    exact wpS_pure (h _ _ .rfl (mi1.finD p.sa (by omega) (by omega)))
  · rw [if_neg (by simpa using hb1)]
    by_cases ha1 : 0 + 1 = a.size
    · rw [if_pos (by simpa using ha1)]
      exact wpS_pure (h _ _ .rfl (p.fin mi1 ha1 (by omega)))
    · rw [if_neg (by simpa using ha1)]
      refine wpS_bind (wpS_get ?_)
      refine wpS_bind (wpS_mono (wpS_forRange (I := fun x c st' => Same st st' ∧ ∃ o i j g, c = ((none, o, i, j, g) : LoS) ∧ PP a b o i j (x + 1))
        (Q := fun c st' => Same st st' ∧ ∃ v r, c = ((some v, r) : LoS) ∧ Res a b v) ?step ?fin ?init) ?post)
      case init => exact ⟨.rfl, _, _, _, _, rfl, mi1, by omega, by omega, by omega⟩
      case fin =>
        rintro c st' ⟨sm, o, i, j, g, rfl, pp⟩
        have e1 := pp.hi; have e2 := pp.hj; have e3 := pp.hn
        omega
      case step =>
        rintro y c st' _ hy ⟨sm, o, i, j, g, rfl, pp⟩
        exact wpS_loOut p (sm.kind.trans hk) pp (fun v r st3 sm3 hr => ⟨sm.trans sm3, v, r, rfl, hr⟩) (fun o i j x st3 sm3 pp => ⟨sm.trans sm3, _, _, _, _, rfl, pp⟩)
      case post =>
        rintro c st' ⟨sm, v, r, rfl, hr⟩
        exact wpS_pure (h _ _ sm hr)
end
end MineS

namespace MineS
open PySem PyProof.Rows

/-- a merge from the back: what is out (the greatest first), and how many of both are left -/
structure MH (a b o : List Keyed) (i j : Nat) : Prop where
  perm : o.Perm (a.drop i ++ b.drop j)
  srt : SrtK o.reverse
  la : ∀ x ∈ o, ∀ y ∈ a.take i, VK y ≤ VK x
  lb : ∀ x ∈ o, ∀ y ∈ b.take j, VK y ≤ VK x
theorem MH.swap {a b o : List Keyed} {i j : Nat} (h : MH a b o i j) : MH b a o j i := ⟨h.perm.trans List.perm_append_comm, h.srt, h.lb, h.la⟩
theorem MH.addA {a b o : List Keyed} {i j : Nat} (h : MH a b o i j) (ha : SrtK a) (m : Nat) (hm : m ≤ i) (hk : ∀ x ∈ (a.drop m).take (i - m), ∀ y ∈ b.take j, VK y ≤ VK x) : MH a b (o ++ ((a.drop m).take (i - m)).reverse) m j := by
  have hsp : a.drop m = (a.drop m).take (i - m) ++ a.drop i := by
    have := List.take_append_drop (i - m) (a.drop m)
    rw [List.drop_drop, show m + (i - m) = i by omega] at this
    exact this.symm
  have hin : ∀ x ∈ (a.drop m).take (i - m), x ∈ a.take i := fun x hx => by
    have : (a.drop m).take (i - m) = (a.take i).drop m := by rw [List.drop_take]
    rw [this] at hx
    exact List.mem_of_mem_drop hx
  have hd : SrtK (a.drop m) := ha.sublist (List.drop_sublist _ _)
  have ha2 : SrtK (a.take m ++ a.drop m) := by rw [List.take_append_drop]; exact ha
  obtain ⟨q1, q2, q3⟩ := List.pairwise_append.mp ha2
  refine ⟨?_, ?_, ?_, ?_⟩
  · rw [hsp]
    refine List.perm_append_comm.trans ?_
    rw [List.append_assoc]
    have h2 : ((a.drop m).take (i - m) ++ a.drop i).take (i - m) = (a.drop m).take (i - m) := by rw [← hsp]
    rw [h2]
    exact (List.reverse_perm _).append h.perm
  · rw [List.reverse_append, List.reverse_reverse]
    refine List.pairwise_append.mpr ⟨hd.sublist (List.take_sublist _ _), h.srt, fun x hx y hy => ?_⟩
    exact h.la y (List.mem_reverse.mp hy) x (hin x hx)
  · intro x hx y hy
    rcases List.mem_append.mp hx with hx | hx
    · exact h.la x hx y (List.take_subset_take_left a hm hy)
    · exact q3 y hy x (List.mem_of_mem_take (List.mem_reverse.mp hx))
  · intro x hx y hy
    rcases List.mem_append.mp hx with hx | hx
    · exact h.lb x hx y hy
    · exact hk x (List.mem_reverse.mp hx) y hy
theorem MH.done {a b o : List Keyed} (h : MH a b o 0 0) : o.reverse.Perm (a ++ b) ∧ SrtK o.reverse := ⟨(List.reverse_perm _).trans h.perm, h.srt⟩

theorem mem_part2 {xs : Array Keyed} {j : Nat} {x : Keyed} (h : x ∈ xs.toList.take j) : ∃ m, m < j ∧ m < xs.size ∧ VK x = K xs m := by
  have h' : x ∈ (xs.toList.drop 0).take j := h
  obtain ⟨m, h1, h2, h3⟩ := mem_part h'
  rw [Nat.zero_add] at h2 h3
  exact ⟨m, h1, h2, h3⟩

def mergeHi' : Array Keyed → Array Keyed → StateT SortSt Sem (Array Keyed) := sortPriv% PySem.Builtin.mergeHi
def doneHi (a b out : Array Keyed) (na nb : Nat) : Array Keyed := a.extract 0 na ++ b.extract 0 nb ++ out.reverse
def firstHi (a b out : Array Keyed) (na nb : Nat) : Array Keyed := b.extract 0 nb ++ a.extract 0 na ++ out.reverse

section
variable {prog : Program} {w : World} {A : Around} {E : Value → Shared → Prop} {s : Shared} {a b out : Array Keyed} {ia ib : Nat}

theorem MH.extA (h : MH a.toList b.toList out.toList ia ib) (ha : SrtK a.toList) (m : Nat) (hm : m ≤ ia) (hk : ∀ x, m ≤ x → x < ia → x < a.size → ∀ y, y < ib → y < b.size → K b y ≤ K a x) : MH a.toList b.toList (out ++ (a.extract m ia).reverse).toList m ib := by
  have := h.addA ha m hm fun x hx y hy => by
    obtain ⟨i, h1, h2, e1⟩ := mem_part hx
    obtain ⟨j, h3, h4, e2⟩ := mem_part2 hy
    rw [e1, e2]; exact hk (m + i) (by omega) (by omega) h2 j h3 h4
  rw [Array.toList_append, Array.toList_reverse, Array.toList_extract, List.extract_eq_take_drop]
  exact this
theorem MH.extB (h : MH a.toList b.toList out.toList ia ib) (hb : SrtK b.toList) (m : Nat) (hm : m ≤ ib) (hk : ∀ x, m ≤ x → x < ib → x < b.size → ∀ y, y < ia → y < a.size → K a y ≤ K b x) : MH a.toList b.toList (out ++ (b.extract m ib).reverse).toList ia m :=
  (h.swap.extA hb m hm hk).swap
theorem push_rev {xs out : Array Keyed} {i : Nat} {p : Keyed} (h : xs[i]? = some p) : (out ++ (xs.extract i (i + 1)).reverse).toList = (out.push p).toList := by
  obtain ⟨h1, rfl⟩ := Array.getElem?_eq_some_iff.mp h
  rw [Array.toList_append, Array.toList_reverse, Array.toList_extract, List.extract_eq_take_drop, Array.toList_push, show i + 1 - i = 1 by omega, List.drop_eq_getElem_cons (by simpa using h1)]
  simp
theorem MH.pushA (h : MH a.toList b.toList out.toList (ia + 1) ib) (ha : SrtK a.toList) {p : Keyed} (hp : a[ia]? = some p) (hk : ∀ y, y < ib → y < b.size → K b y ≤ K a ia) : MH a.toList b.toList (out.push p).toList ia ib := by
  rw [← push_rev hp]
  exact h.extA ha ia (by omega) fun x h1 h2 _ => by obtain rfl : x = ia := by omega
                                                    exact hk
theorem MH.pushB (h : MH a.toList b.toList out.toList ia (ib + 1)) (hb : SrtK b.toList) {p : Keyed} (hp : b[ib]? = some p) (hk : ∀ y, y < ia → y < a.size → K a y ≤ K b ib) : MH a.toList b.toList (out.push p).toList ia ib := (h.swap.pushA hb hp hk).swap
theorem MH.finD (h : MH a.toList b.toList out.toList 0 ib) (hb : SrtK b.toList) : Res a b (doneHi a b out 0 ib) := by
  have h1 := (h.extB hb 0 (by omega) fun x _ _ _ y h2 => by omega).done
  unfold doneHi Res
  have e : (a.extract 0 0 ++ b.extract 0 ib ++ out.reverse).toList = (out ++ (b.extract 0 ib).reverse).toList.reverse := by simp
  rw [e]; exact h1
theorem MH.finF (h : MH a.toList b.toList out.toList ia 1) (ha : SrtK a.toList) (hb : SrtK b.toList) (hl : ∀ x, x < a.size → K b 0 ≤ K a x) : Res a b (firstHi a b out ia 1) := by
  have h1 := h.extA ha 0 (by omega) fun x _ _ h3 y h4 _ => by obtain rfl : y = 0 := by omega
                                                              exact hl x h3
  have h2 := (h1.extB hb 0 (by omega) fun x _ _ _ y h2 => by omega).done
  unfold firstHi Res
  have e : (b.extract 0 1 ++ a.extract 0 ia ++ out.reverse).toList = (out ++ (a.extract 0 ia).reverse ++ (b.extract 0 1).reverse).toList.reverse := by simp
  rw [e]; exact h2
end

abbrev HiS := Option (Array Keyed) × Nat × Nat × Array Keyed × Nat
abbrev HiS1 := Option (Array Keyed) × Nat × Nat × Array Keyed × Nat × Nat
abbrev HiS2 := Option (Array Keyed) × Nat × Nat × Array Keyed × Nat × Nat × Nat
def hi1 (a b : Array Keyed) (mg : Nat) (r : HiS1) : StateT SortSt Sem (ForInStep HiS1) := do
  let p ← elem' b (r.2.2.1 - 1)
  let q ← elem' a (r.2.1 - 1)
  let x ← lt' p q
  match x with
  | some aWins =>
    if aWins = true then do
      let q ← elem' a (r.2.1 - 1)
      if (r.2.1 - 1 == 0) = true then pure (.done (some (doneHi a b (r.2.2.2.1.push q) (r.2.1 - 1) r.2.2.1), r.2.1 - 1, r.2.2.1, r.2.2.2.1.push q, r.2.2.2.2.1 + 1, 0))
      else if r.2.2.2.2.1 + 1 ≥ mg then pure (.done (none, r.2.1 - 1, r.2.2.1, r.2.2.2.1.push q, r.2.2.2.2.1 + 1, 0))
      else pure (.yield (none, r.2.1 - 1, r.2.2.1, r.2.2.2.1.push q, r.2.2.2.2.1 + 1, 0))
    else do
      let p ← elem' b (r.2.2.1 - 1)
      if (r.2.2.1 - 1 == 1) = true then pure (.done (some (firstHi a b (r.2.2.2.1.push p) r.2.1 (r.2.2.1 - 1)), r.2.1, r.2.2.1 - 1, r.2.2.2.1.push p, 0, r.2.2.2.2.2 + 1))
      else if r.2.2.2.2.2 + 1 ≥ mg then pure (.done (none, r.2.1, r.2.2.1 - 1, r.2.2.2.1.push p, 0, r.2.2.2.2.2 + 1))
      else pure (.yield (none, r.2.1, r.2.2.1 - 1, r.2.2.2.1.push p, 0, r.2.2.2.2.2 + 1))
  | _ => pure (.done (some (doneHi a b r.2.2.2.1 r.2.1 r.2.2.1), r.2.1, r.2.2.1, r.2.2.2.1, r.2.2.2.2.1, r.2.2.2.2.2))
def hiD (a b out : Array Keyed) (na nb mg ac bc : Nat) : StateT SortSt Sem (ForInStep HiS2) := do
  let q ← elem' a (na - 1)
  if (na - 1 == 0) = true then pure (.done (some (doneHi a b (out.push q) (na - 1) nb), na - 1, nb, out.push q, mg, ac, bc))
  else if (decide (ac < 7) && decide (bc < 7)) = true then pure (.done (none, na - 1, nb, out.push q, mg, ac, bc))
  else pure (.yield (none, na - 1, nb, out.push q, mg, ac, bc))
def hiB (a b out : Array Keyed) (na nb mg ac bc : Nat) : StateT SortSt Sem (ForInStep HiS2) := do
  let p ← elem' b (nb - 1)
  if (nb - 1 == 1) = true then pure (.done (some (firstHi a b (out.push p) na (nb - 1)), na, nb - 1, out.push p, mg, ac, bc))
  else do
    let q ← elem' a (na - 1)
    let x ← gallop' true q b 0 (nb - 1) (nb - 1 - 1)
    match x with
    | some k =>
      if nb - 1 - k > 0 then
        if (k == 1) = true then pure (.done (some (firstHi a b (out.push p ++ (b.extract k (nb - 1)).reverse) na k), na, k, out.push p ++ (b.extract k (nb - 1)).reverse, mg, ac, nb - 1 - k))
        else if (k == 0) = true then pure (.done (some (doneHi a b (out.push p ++ (b.extract k (nb - 1)).reverse) na k), na, k, out.push p ++ (b.extract k (nb - 1)).reverse, mg, ac, nb - 1 - k))
        else hiD a b (out.push p ++ (b.extract k (nb - 1)).reverse) na k mg ac (nb - 1 - k)
      else hiD a b (out.push p) na (nb - 1) mg ac (nb - 1 - k)
    | _ => pure (.done (some (doneHi a b (out.push p) na (nb - 1)), na, nb - 1, out.push p, mg, ac, bc))
def hiA (a b out : Array Keyed) (na nb mg ac bc : Nat) : StateT SortSt Sem (ForInStep HiS2) := do
  setMinGallop' mg
  let p ← elem' b (nb - 1)
  let x ← gallop' false p a 0 na (na - 1)
  match x with
  | some k =>
    if na - k > 0 then
      if (k == 0) = true then pure (.done (some (doneHi a b (out ++ (a.extract k na).reverse) k nb), k, nb, out ++ (a.extract k na).reverse, mg, na - k, bc))
      else hiB a b (out ++ (a.extract k na).reverse) k nb mg (na - k) bc
    else hiB a b out na nb mg (na - k) bc
  | _ => pure (.done (some (doneHi a b out na nb), na, nb, out, mg, ac, bc))
def hi2 (a b : Array Keyed) (r : HiS2) : StateT SortSt Sem (ForInStep HiS2) :=
  if r.2.2.2.2.1 > 1 then hiA a b r.2.2.2.1 r.2.1 r.2.2.1 (r.2.2.2.2.1 - 1) r.2.2.2.2.2.1 r.2.2.2.2.2.2
  else hiA a b r.2.2.2.1 r.2.1 r.2.2.1 r.2.2.2.2.1 r.2.2.2.2.2.1 r.2.2.2.2.2.2
def hiOut (a b : Array Keyed) (r : HiS) : StateT SortSt Sem (ForInStep HiS) := do
  let r1 ← forIn [0:a.size + b.size] ((none, r.2.1, r.2.2.1, r.2.2.2.1, 0, 0) : HiS1) fun _ x => hi1 a b r.2.2.2.2 x
  match r1.1 with
  | some v => pure (.done (some v, r1.2.1, r1.2.2.1, r1.2.2.2.1, r.2.2.2.2))
  | none => do
    liftM (rule "list.sort.gallop")
    let r2 ← forIn [0:a.size + b.size] ((none, r1.2.1, r1.2.2.1, r1.2.2.2.1, r.2.2.2.2 + 1, r1.2.2.2.2.1, r1.2.2.2.2.2) : HiS2) fun _ x => hi2 a b x
    match r2.1 with
    | some v => pure (.done (some v, r2.2.1, r2.2.2.1, r2.2.2.2.1, r2.2.2.2.2.1))
    | none => do
      setMinGallop' (r2.2.2.2.2.1 + 1)
      pure (.yield (none, r2.2.1, r2.2.2.1, r2.2.2.2.1, r2.2.2.2.2.1 + 1))
theorem mergeHi'_eq (a b : Array Keyed) : mergeHi' a b = (do
  liftM (rule "list.sort.merge-hi")
  let p ← elem' a (a.size - 1)
  if (a.size - 1 == 0) = true then pure (doneHi a b #[p] (a.size - 1) b.size)
  else if (b.size == 1) = true then pure (firstHi a b #[p] (a.size - 1) b.size)
  else do
    let st ← get
    let r ← forIn [0:a.size + b.size] ((none, a.size - 1, b.size, #[p], gallopOf st) : HiS) fun _ x => hiOut a b x
    match r.1 with
    | some v => pure v
    | none => liftM (unsupported "internal:list.sort.merge-bound" : Sem (Array Keyed))) := by kernel_rfl

structure PH (a b out : Array Keyed) (na nb n : Nat) : Prop where
  mi : MH a.toList b.toList out.toList na nb
  hi : 1 ≤ na
  hj : 2 ≤ nb
  la : na ≤ a.size
  lb : nb ≤ b.size
  hn : n ≤ a.size - na + (b.size - nb)

section
variable {prog : Program} {w : World} {A : Around} {E : Value → Shared → Prop} {s : Shared} {a b out : Array Keyed} {na nb n : Nat} {st : SortSt}

theorem PH.less {m : Nat} (h : PH a b out na nb n) (hm : m ≤ n) : PH a b out na nb m := ⟨h.mi, h.hi, h.hj, h.la, h.lb, Nat.le_trans hm h.hn⟩
theorem Pre.lowA (p : Pre a b) {i x : Nat} (hi : i < b.size) (h : K a x ≤ K b i) : ∀ y, y ≤ x → x < a.size → K a y ≤ K b i := fun y h1 h2 => Int.le_trans (upOf p.sa y x h1 h2) h
theorem Pre.lowB (p : Pre a b) {i x : Nat} (h : K b x ≤ K a i) : ∀ y, y ≤ x → x < b.size → K b y ≤ K a i := fun y h1 h2 => Int.le_trans (upOf p.sb y x h1 h2) h
theorem Pre.low (p : Pre a b) : ∀ x, x < a.size → K b 0 < K a x := fun x h => by have h1 := upOf p.sa 0 x (by omega) h; have h2 := p.h0; omega

theorem wpS_hi1 (p : Pre a b) (hk : kindOf st = oneType') (hP : PH a b out na nb n) {mg ac bc : Nat} {Q : ForInStep HiS1 → SortSt → Prop} (h1 : ∀ v r, Res a b v → Q (.done (some v, r)) st)
    (h2 : ∀ o i j x y, PH a b o i j (n + 1) → Q (.done (none, i, j, o, x, y)) st) (h3 : ∀ o i j x y, PH a b o i j (n + 1) → Q (.yield (none, i, j, o, x, y)) st) :
    wpS (model prog w) A E s (hi1 a b mg (none, na, nb, out, ac, bc)) Q st := by
  obtain ⟨mi, hi, hj, la, lb, hn⟩ := hP
  obtain ⟨na, rfl⟩ : ∃ m, na = m + 1 := ⟨na - 1, by omega⟩
  obtain ⟨nb, rfl⟩ : ∃ m, nb = m + 1 := ⟨nb - 1, by omega⟩
  obtain ⟨t, q, e1⟩ := ikAt p.hb (show nb < b.size by omega)
  obtain ⟨u, q', e2⟩ := ikAt p.ha (show na < a.size by omega)
  unfold hi1
  dsimp only
  rw [show nb + 1 - 1 = nb by omega, show na + 1 - 1 = na by omega]
  refine wpS_bind (wpS_elem e1 (wpS_bind (wpS_elem e2 (wpS_bind (wpS_lt hk ?_)))))
  dsimp only
  by_cases hlt : K b nb < K a na
  · rw [if_pos (decide_eq_true hlt)]
    have mi' := mi.pushA p.sa e2 (fun y h1 h2 => p.lowB (Int.le_of_lt hlt) y (by omega) (by omega))
    refine wpS_bind (wpS_elem e2 ?_)
    by_cases he : na = 0
    · subst he
      rw [if_pos (by rfl)]
      exact wpS_pure (h1 _ _ (mi'.finD p.sb))
    · rw [if_neg (by simpa using he)]
      have pp : PH a b (out.push (.int (K a na) u, q')) na (nb + 1) (n + 1) := ⟨mi', by omega, by omega, by omega, by omega, by omega⟩
      split
      · exact wpS_pure (h2 _ _ _ _ _ pp)
      · exact wpS_pure (h3 _ _ _ _ _ pp)
  · rw [if_neg (by simpa using hlt)]
    have mi' := mi.pushB p.sb e1 (fun y h1 h2 => p.lowA (by omega) (Int.not_lt.mp hlt) y (by omega) (by omega))
    refine wpS_bind (wpS_elem e1 ?_)
    by_cases he : nb = 1
    · subst he
      rw [if_pos (by rfl)]
      exact wpS_pure (h1 _ _ (mi'.finF p.sa p.sb fun x hx => Int.le_of_lt (p.low x hx)))
    · rw [if_neg (by simpa using he)]
      have pp : PH a b (out.push (.int (K b nb) t, q)) (na + 1) nb (n + 1) := ⟨mi', by omega, by omega, by omega, by omega, by omega⟩
      split
      · exact wpS_pure (h2 _ _ _ _ _ pp)
      · exact wpS_pure (h3 _ _ _ _ _ pp)

theorem wpS_hiD (p : Pre a b) (mi : MH a.toList b.toList out.toList na nb) (hi : 1 ≤ na) (hj : 2 ≤ nb) (la : na ≤ a.size) (lb : nb ≤ b.size) (hn : n ≤ a.size - na + (b.size - nb)) (hle : K b (nb - 1) ≤ K a (na - 1)) {mg ac bc : Nat} {Q : ForInStep HiS2 → SortSt → Prop} (h1 : ∀ v r, Res a b v → Q (.done (some v, r)) st)
    (h2 : ∀ o i j x y z, PH a b o i j n → Q (.done (none, i, j, o, x, y, z)) st) (h3 : ∀ o i j x y z, PH a b o i j n → Q (.yield (none, i, j, o, x, y, z)) st) :
    wpS (model prog w) A E s (hiD a b out na nb mg ac bc) Q st := by
  obtain ⟨na, rfl⟩ : ∃ m, na = m + 1 := ⟨na - 1, by omega⟩
  rw [show na + 1 - 1 = na by omega] at hle
  obtain ⟨u, q', e2⟩ := ikAt p.ha (show na < a.size by omega)
  unfold hiD
  rw [show na + 1 - 1 = na by omega]
  have mi' := mi.pushA p.sa e2 (fun y h1 h2 => p.lowB hle y (by omega) (by omega))
  refine wpS_bind (wpS_elem e2 ?_)
  by_cases he : na = 0
  · subst he
    rw [if_pos (by rfl)]
    exact wpS_pure (h1 _ _ (mi'.finD p.sb))
  · rw [if_neg (by simpa using he)]
    have pp : PH a b (out.push (.int (K a na) u, q')) na nb n := ⟨mi', by omega, by omega, by omega, by omega, by omega⟩
    split
    · exact wpS_pure (h2 _ _ _ _ _ _ pp)
    · exact wpS_pure (h3 _ _ _ _ _ _ pp)

theorem wpS_hiB (p : Pre a b) (hk : kindOf st = oneType') (mi : MH a.toList b.toList out.toList na nb) (hi : 1 ≤ na) (hj : 2 ≤ nb) (la : na ≤ a.size) (lb : nb ≤ b.size) (hn : n ≤ a.size - na + (b.size - nb)) (hle : K a (na - 1) ≤ K b (nb - 1)) {mg ac bc : Nat} {Q : ForInStep HiS2 → SortSt → Prop} (h1 : ∀ v r, Res a b v → Q (.done (some v, r)) st)
    (h2 : ∀ o i j x y z, PH a b o i j n → Q (.done (none, i, j, o, x, y, z)) st) (h3 : ∀ o i j x y z, PH a b o i j n → Q (.yield (none, i, j, o, x, y, z)) st) :
    wpS (model prog w) A E s (hiB a b out na nb mg ac bc) Q st := by
  obtain ⟨nb, rfl⟩ : ∃ m, nb = m + 1 := ⟨nb - 1, by omega⟩
  rw [show nb + 1 - 1 = nb by omega] at hle
  obtain ⟨t, q, e1⟩ := ikAt p.hb (show nb < b.size by omega)
  obtain ⟨u, q', e2⟩ := ikAt p.ha (show na - 1 < a.size by omega)
  unfold hiB
  rw [show nb + 1 - 1 = nb by omega]
  have mi' := mi.pushB p.sb e1 (fun y h1 h2 => p.lowA (by omega) hle y (by omega) (by omega))
  refine wpS_bind (wpS_elem e1 ?_)
  by_cases he : nb = 1
  · subst he
    rw [if_pos (by rfl)]
    exact wpS_pure (h1 _ _ (mi'.finF p.sa p.sb fun x hx => Int.le_of_lt (p.low x hx)))
  · rw [if_neg (by simpa using he)]
    refine wpS_bind (wpS_elem e2 (wpS_bind (wpS_left hk p.hb (by omega) (by omega) (fun i j h1 h2 h3 => upOf p.sb i j h2 (by omega)) fun k hk1 hk2 hk3 => ?_)))
    simp only [Nat.zero_add] at hk2 hk3
    dsimp only
    have k1 : 1 ≤ k := by
      by_cases h0 : k = 0
      · have h4 := hk3 0 (by omega) (by omega)
        have h5 := p.low (na - 1) (by omega)
        omega
      · omega
    by_cases hk0 : nb - k > 0
    · rw [if_pos hk0]
      have mi2 := mi'.extB p.sb k (by omega) fun x h1 h2 h3 y h4 h5 => Int.le_trans (upOf p.sa y (na - 1) (by omega) (by omega)) (hk3 x h1 h2)
      by_cases hf : k = 1
      · subst hf
        rw [if_pos (by rfl)]
        exact wpS_pure (h1 _ _ (mi2.finF p.sa p.sb fun x hx => Int.le_of_lt (p.low x hx)))
      · rw [if_neg (by simpa using hf), if_neg (by simp; omega)]
        exact wpS_hiD p mi2 hi (by omega) la (by omega) (by omega) (Int.le_of_lt (hk2 (k - 1) (by omega))) h1 h2 h3
    · rw [if_neg hk0]
      exact wpS_hiD p mi' hi (by omega) la (by omega) (by omega) (Int.le_of_lt (hk2 (nb - 1) (by omega))) h1 h2 h3

theorem wpS_hiA (p : Pre a b) (hk : kindOf st = oneType') (hP : PH a b out na nb n) {mg ac bc : Nat} {Q : ForInStep HiS2 → SortSt → Prop} (h1 : ∀ v r st', Same st st' → Res a b v → Q (.done (some v, r)) st')
    (h2 : ∀ o i j x y z st', Same st st' → PH a b o i j n → Q (.done (none, i, j, o, x, y, z)) st') (h3 : ∀ o i j x y z st', Same st st' → PH a b o i j n → Q (.yield (none, i, j, o, x, y, z)) st') :
    wpS (model prog w) A E s (hiA a b out na nb mg ac bc) Q st := by
  obtain ⟨mi, hi, hj, la, lb, hn⟩ := hP
  obtain ⟨t, q, e1⟩ := ikAt p.hb (show nb - 1 < b.size by omega)
  unfold hiA
  rw [setMinGallop'_eq]
  refine wpS_bind (wpS_modify ?_)
  have sm : Same st (SortSt.mk' (kindOf st) (arrOf st) (pendingOf st) mg (failedOf st)) := ⟨rfl, rfl, rfl, rfl⟩
  have hk' : kindOf (SortSt.mk' (kindOf st) (arrOf st) (pendingOf st) mg (failedOf st)) = oneType' := hk
  refine wpS_bind (wpS_elem e1 (wpS_bind (wpS_right hk p.ha (by omega) (by omega) (fun i j h1 h2 h3 => upOf p.sa i j h2 (by omega)) fun k hk1 hk2 hk3 => ?_)))
  simp only [Nat.zero_add] at hk2 hk3
  dsimp only
  by_cases hk0 : na - k > 0
  · rw [if_pos hk0]
    have mi2 := mi.extA p.sa k (by omega) fun x h1 h2 h3 y h4 h5 => Int.le_trans (upOf p.sb y (nb - 1) (by omega) (by omega)) (Int.le_of_lt (hk3 x h1 h2))
    by_cases hf : k = 0
    · subst hf
      rw [if_pos (by rfl)]
      exact wpS_pure (h1 _ _ _ sm (mi2.finD p.sb))
    · rw [if_neg (by simpa using hf)]
      exact wpS_hiB p hk' mi2 (by omega) hj (by omega) lb (by omega) (hk2 (k - 1) (by omega)) (fun v r => h1 v r _ sm) (fun o i j x y z => h2 o i j x y z _ sm) (fun o i j x y z => h3 o i j x y z _ sm)
  · rw [if_neg hk0]
    exact wpS_hiB p hk' mi hi hj la lb hn (hk2 (na - 1) (by omega)) (fun v r => h1 v r _ sm) (fun o i j x y z => h2 o i j x y z _ sm) (fun o i j x y z => h3 o i j x y z _ sm)

theorem wpS_hi2 (p : Pre a b) (hk : kindOf st = oneType') (hP : PH a b out na nb n) {mg ac bc : Nat} {Q : ForInStep HiS2 → SortSt → Prop} (h1 : ∀ v r st', Same st st' → Res a b v → Q (.done (some v, r)) st')
    (h2 : ∀ o i j x y z st', Same st st' → PH a b o i j n → Q (.done (none, i, j, o, x, y, z)) st') (h3 : ∀ o i j x y z st', Same st st' → PH a b o i j n → Q (.yield (none, i, j, o, x, y, z)) st') :
    wpS (model prog w) A E s (hi2 a b (none, na, nb, out, mg, ac, bc)) Q st := by
  unfold hi2
  dsimp only
  split
  · exact wpS_hiA p hk hP h1 h2 h3
  · exact wpS_hiA p hk hP h1 h2 h3

theorem wpS_hiOut (p : Pre a b) (hk : kindOf st = oneType') (hP : PH a b out na nb n) {mg : Nat} {Q : ForInStep HiS → SortSt → Prop} (h1 : ∀ v r st', Same st st' → Res a b v → Q (.done (some v, r)) st')
    (h3 : ∀ o i j x st', Same st st' → PH a b o i j (n + 1) → Q (.yield (none, i, j, o, x)) st') :
    wpS (model prog w) A E s (hiOut a b (none, na, nb, out, mg)) Q st := by
  unfold hiOut
  dsimp only
  refine wpS_bind (wpS_mono (wpS_forRange (I := fun y c st' => st' = st ∧ ∃ o i j x z, c = ((none, i, j, o, x, z) : HiS1) ∧ PH a b o i j (n + min y 1))
    (Q := fun c st' => st' = st ∧ ((∃ v r, c = ((some v, r) : HiS1) ∧ Res a b v) ∨ ∃ o i j x z, c = ((none, i, j, o, x, z) : HiS1) ∧ PH a b o i j (n + 1))) ?step ?fin ?init) ?post)
  case init => exact ⟨rfl, _, _, _, _, _, rfl, hP⟩
  case fin =>
    rintro c st' ⟨rfl, o, i, j, x, z, rfl, pp⟩
    exact ⟨rfl, .inr ⟨_, _, _, _, _, rfl, pp.less (by have := p.na; omega)⟩⟩
  case step =>
    rintro y c st' _ hy ⟨rfl, o, i, j, x, z, rfl, pp⟩
    exact wpS_hi1 p hk pp (fun v r hr => ⟨rfl, .inl ⟨v, r, rfl, hr⟩⟩) (fun o i j x y pp => ⟨rfl, .inr ⟨_, _, _, _, _, rfl, pp.less (by omega)⟩⟩) (fun o i j x y pp => ⟨rfl, _, _, _, _, _, rfl, pp.less (by omega)⟩)
  case post =>
    rintro c st' ⟨rfl, ⟨v, r, rfl, hr⟩ | ⟨o, i, j, x, z, rfl, pp⟩⟩
    · exact wpS_pure (h1 _ _ _ .rfl hr)
    · dsimp only
      refine wpS_bind (wpS_lift (wpAny_rule ⟨rfl, ?_⟩))
      refine wpS_bind (wpS_mono (wpS_forRange (I := fun y c st2 => Same st' st2 ∧ ∃ o i j x y z, c = ((none, i, j, o, x, y, z) : HiS2) ∧ PH a b o i j (n + 1))
        (Q := fun c st2 => Same st' st2 ∧ ((∃ v r, c = ((some v, r) : HiS2) ∧ Res a b v) ∨ ∃ o i j x y z, c = ((none, i, j, o, x, y, z) : HiS2) ∧ PH a b o i j (n + 1))) ?step ?fin ?init) ?post)
      case init => exact ⟨.rfl, _, _, _, _, _, _, rfl, pp⟩
      case fin =>
        rintro c st2 ⟨sm, o, i, j, x, y, z, rfl, pp⟩
        exact ⟨sm, .inr ⟨_, _, _, _, _, _, rfl, pp⟩⟩
      case step =>
        rintro y c st2 _ hy ⟨sm, o, i, j, x, y, z, rfl, pp⟩
        exact wpS_hi2 p (sm.kind.trans hk) pp (fun v r st3 sm3 hr => ⟨sm.trans sm3, .inl ⟨v, r, rfl, hr⟩⟩) (fun o i j x y z st3 sm3 pp => ⟨sm.trans sm3, .inr ⟨_, _, _, _, _, _, rfl, pp⟩⟩) (fun o i j x y z st3 sm3 pp => ⟨sm.trans sm3, _, _, _, _, _, _, rfl, pp⟩)
      case post =>
        rintro c st2 ⟨sm, ⟨v, r, rfl, hr⟩ | ⟨o, i, j, x, y, z, rfl, pp⟩⟩
        · exact wpS_pure (h1 _ _ _ sm hr)
        · dsimp only
          rw [setMinGallop'_eq]
          exact wpS_bind (wpS_modify (wpS_pure (h3 _ _ _ _ _ (sm.gallop _) pp)))

theorem wpS_mergeHi (p : Pre a b) (hk : kindOf st = oneType') {Q : Array Keyed → SortSt → Prop} (h : ∀ v st', Same st st' → Res a b v → Q v st') :
    wpS (model prog w) A E s (mergeHi' a b) Q st := by
  rw [mergeHi'_eq]
  have pna := p.na
  have pnb := p.nb
  refine wpS_bind (wpS_lift (wpAny_rule ⟨rfl, ?_⟩))
  obtain ⟨t, q, e1⟩ := ikAt p.ha (show a.size - 1 < a.size by omega)
  refine wpS_bind (wpS_elem e1 ?_)
  have mi : MH a.toList b.toList (#[] : Array Keyed).toList (a.size - 1 + 1) b.size := ⟨by simp; omega, List.Pairwise.nil, by simp, by simp⟩
  have mi1 : MH a.toList b.toList (#[((.int (K a (a.size - 1)) t, q) : Keyed)]).toList (a.size - 1) b.size := mi.pushA p.sa e1 (fun y _ h2 => Int.le_of_lt (p.hl y h2))
  by_cases ha1 : a.size - 1 = 0
  · rw [if_pos (by simpa using ha1)]
    rw [ha1] at mi1 ⊢
    exact wpS_pure (h _ _ .rfl (mi1.finD p.sb))
  · rw [if_neg (by simpa using ha1)]
    by_cases hb1 : b.size = 1
    · rw [if_pos (by simpa using hb1)]
      rw [hb1] at mi1 ⊢
      exact wpS_pure (h _ _ .rfl (mi1.finF p.sa p.sb fun x hx => Int.le_of_lt (p.low x hx)))
    · rw [if_neg (by simpa using hb1)]
      refine wpS_bind (wpS_get ?_)
      refine wpS_bind (wpS_mono (wpS_forRange (I := fun x c st' => Same st st' ∧ ∃ o i j g, c = ((none, i, j, o, g) : HiS) ∧ PH a b o i j (x + 1))
        (Q := fun c st' => Same st st' ∧ ∃ v r, c = ((some v, r) : HiS) ∧ Res a b v) ?step ?fin ?init) ?post)
      case init => exact ⟨.rfl, _, _, _, _, rfl, mi1, by omega, by omega, by omega, by omega, by omega⟩
      case fin =>
        rintro c st' ⟨sm, o, i, j, g, rfl, pp⟩
        have e1 := pp.hi; have e2 := pp.hj; have e3 := pp.hn; have e4 := pp.la; have e5 := pp.lb
        omega
      case step =>
        rintro y c st' _ hy ⟨sm, o, i, j, g, rfl, pp⟩
        exact wpS_hiOut p (sm.kind.trans hk) pp (fun v r st3 sm3 hr => ⟨sm.trans sm3, v, r, rfl, hr⟩) (fun o i j x st3 sm3 pp => ⟨sm.trans sm3, _, _, _, _, rfl, pp⟩)
      case post =>
        rintro c st' ⟨sm, v, r, rfl, hr⟩
        exact wpS_pure (h _ _ sm hr)
end
end MineS

namespace MineS
open PySem PyProof.Rows

def putAt (xs : Array Keyed) (base : Nat) (l : List Keyed) : Array Keyed := l.zipIdx.foldl (fun a x => a.setIfInBounds (base + x.2) x.1) xs
theorem put_get (base : Nat) : ∀ (l : List Keyed) (n : Nat) (xs : Array Keyed) (k : Nat), base + n + l.length ≤ xs.size →
    ((l.zipIdx n).foldl (fun a x => a.setIfInBounds (base + x.2) x.1) xs)[k]? = if base + n ≤ k ∧ k < base + n + l.length then l[k - (base + n)]? else xs[k]?
  | [], n, xs, k, h => by rw [if_neg (by simp)]; rfl
  | p :: l, n, xs, k, h => by
    rw [List.zipIdx_cons, List.foldl_cons, put_get base l (n + 1) _ k (by simp at h ⊢; omega)]
    simp only [List.length_cons] at h ⊢
    by_cases h1 : base + (n + 1) ≤ k ∧ k < base + (n + 1) + l.length
    · rw [if_pos h1, if_pos (by omega), show k - (base + n) = (k - (base + (n + 1))) + 1 by omega, List.getElem?_cons_succ]
    · rw [if_neg h1]
      by_cases h2 : k = base + n
      · subst h2
        rw [if_pos (by omega), Nat.sub_self, List.getElem?_cons_zero]
        rw [Array.getElem?_setIfInBounds, if_pos rfl, if_pos (by omega)]
      · rw [if_neg (by omega), Array.getElem?_setIfInBounds, if_neg (by omega)]
theorem putAt_get {xs : Array Keyed} {base : Nat} {l : List Keyed} (h : base + l.length ≤ xs.size) (k : Nat) : (putAt xs base l)[k]? = if base ≤ k ∧ k < base + l.length then l[k - base]? else xs[k]? := put_get base l 0 xs k h
theorem putAt_list {xs : Array Keyed} {base : Nat} {l : List Keyed} (h : base + l.length ≤ xs.size) : (putAt xs base l).toList = xs.toList.take base ++ l ++ xs.toList.drop (base + l.length) := by
  apply List.ext_getElem?
  intro k
  have h1 := putAt_get h k
  rw [Array.getElem?_toList, h1, List.getElem?_append, List.getElem?_append, List.getElem?_take, List.getElem?_drop]
  simp only [List.length_append, List.length_take, Array.length_toList]
  rw [show min base xs.size = base by omega]
  by_cases c1 : k < base
  · rw [if_neg (by omega), if_pos (by omega), if_pos c1, if_pos c1]; simp
  · by_cases c2 : k < base + l.length
    · rw [if_pos (by omega), if_pos c2, if_neg c1]
    · rw [if_neg (by omega), if_neg c2, show base + l.length + (k - (base + l.length)) = k by omega]; simp

/-- the written merge, seen in the whole -/
theorem merged_ok {xs : Array Keyed} {sa na nb k m : Nat} {r : Array Keyed} (hsz : sa + na + nb ≤ xs.size) (hk : k < na) (hm : m ≤ nb) (hm1 : 1 ≤ m) (ua : Up xs sa (sa + na)) (ub : Up xs (sa + na) (sa + na + nb))
    (k1 : ∀ i, i < k → K xs (sa + i) ≤ K xs (sa + na)) (m2 : ∀ i, m ≤ i → i < nb → K xs (sa + na - 1) ≤ K xs (sa + na + i))
    (k2 : ∀ i, k ≤ i → i < na → K xs (sa + na) < K xs (sa + i)) (m1 : ∀ i, i < m → K xs (sa + na + i) < K xs (sa + na - 1))
    (hr : Res (xs.extract (sa + k) (sa + na)) (xs.extract (sa + na) (sa + na + m)) r) :
    Loc2 sa (sa + na + nb) xs (putAt xs (sa + k) r.toList) ∧ Up (putAt xs (sa + k) r.toList) sa (sa + na + nb) := by
  have hl : r.toList.length = na - k + m := by
    have := hr.1.length_eq
    simp at this
    simp; omega
  have hb : sa + k + r.toList.length ≤ xs.size := by omega
  have e0 : r.toList.Perm ((xs.toList.drop (sa + k)).take r.toList.length) := by
    refine hr.1.trans ?_
    rw [Array.toList_extract, Array.toList_extract, List.extract_eq_take_drop, List.extract_eq_take_drop, hl, List.take_add, List.drop_drop, show sa + na - (sa + k) = na - k by omega, show sa + k + (na - k) = sa + na by omega, show sa + na + m - (sa + na) = m by omega]
  have mem : ∀ p, p ∈ r.toList → ∃ i, sa + k ≤ i ∧ i < sa + na + m ∧ VK p = K xs i := fun p hp => by
    obtain ⟨i, h1, h2, h3⟩ := mem_part (e0.mem_iff.mp hp)
    exact ⟨sa + k + i, by omega, by omega, h3⟩
  have kv : ∀ i, K (putAt xs (sa + k) r.toList) i = if sa + k ≤ i ∧ i < sa + na + m then (match r.toList[i - (sa + k)]? with | some p => VK p | none => 0) else K xs i := fun i => by
    unfold K
    rw [putAt_get hb, hl, show sa + k + (na - k + m) = sa + na + m by omega]
    by_cases c : sa + k ≤ i ∧ i < sa + na + m
    · rw [if_pos c, if_pos c]; cases r.toList[i - (sa + k)]? <;> rfl
    · rw [if_neg c, if_neg c]
  have mv : ∀ i, sa + k ≤ i → i < sa + na + m → ∃ p, r.toList[i - (sa + k)]? = some p ∧ K (putAt xs (sa + k) r.toList) i = VK p ∧ ∃ i', sa + k ≤ i' ∧ i' < sa + na + m ∧ VK p = K xs i' := fun i h1 h2 => by
    have h3 : i - (sa + k) < r.toList.length := by omega
    refine ⟨r.toList[i - (sa + k)], List.getElem?_eq_getElem h3, ?_, mem _ (List.getElem_mem h3)⟩
    rw [kv, if_pos ⟨h1, h2⟩, List.getElem?_eq_getElem h3]
  have low : ∀ i, sa ≤ i → i < sa + k → ∀ j, sa + k ≤ j → j < sa + na + nb → K xs i ≤ K xs j := fun i h1 h2 j h3 h4 => by
    have e1 := k1 (i - sa) (by omega)
    rw [show sa + (i - sa) = i by omega] at e1
    by_cases h5 : j < sa + na
    · exact ua i j h1 (by omega) h5
    · exact Int.le_trans e1 (ub (sa + na) j (by omega) (by omega) h4)
  have high : ∀ i, sa + k ≤ i → i < sa + na + m → ∀ j, sa + na + m ≤ j → j < sa + na + nb → K xs i ≤ K xs j := fun i h1 h2 j h3 h4 => by
    have e1 := m2 (j - (sa + na)) (by omega) (by omega)
    rw [show sa + na + (j - (sa + na)) = j by omega] at e1
    by_cases h5 : i < sa + na
    · exact Int.le_trans (ua i (sa + na - 1) (by omega) (by omega) (by omega)) e1
    · exact ub i j (by omega) (by omega) h4
  refine ⟨⟨?_, ?_⟩, ?_⟩
  · rw [Array.perm_iff_toList_perm, putAt_list hb]
    have e1 : xs.toList = xs.toList.take (sa + k) ++ (xs.toList.drop (sa + k)).take r.toList.length ++ xs.toList.drop (sa + k + r.toList.length) := by
      rw [← List.take_add, List.take_append_drop]
    conv => rhs; rw [e1]
    exact (e0.append_left _).append_right _
  · intro i hi
    rw [putAt_get hb, if_neg (by omega)]
  · intro i j h1 h2 h3
    by_cases ci : i < sa + k
    · rw [kv i, if_neg (by omega)]
      by_cases cj : sa + k ≤ j ∧ j < sa + na + m
      · obtain ⟨p, _, e, i', h4, h5, e2⟩ := mv j cj.1 cj.2
        rw [e, e2]; exact low i h1 ci i' h4 (by omega)
      · rw [kv j, if_neg cj]
        by_cases c3 : j < sa + na
        · exact ua i j h1 h2 c3
        · exact low i h1 ci j (by omega) h3
    · by_cases ci2 : i < sa + na + m
      · obtain ⟨p, hp, e, i', h4, h5, e2⟩ := mv i (by omega) ci2
        by_cases cj : j < sa + na + m
        · obtain ⟨p', hp', e', _⟩ := mv j (by omega) cj
          rw [e, e']
          rcases Nat.lt_or_eq_of_le h2 with h6 | rfl
          · obtain ⟨q1, q2⟩ := List.getElem?_eq_some_iff.mp hp
            obtain ⟨q3, q4⟩ := List.getElem?_eq_some_iff.mp hp'
            rw [← q2, ← q4]
            exact List.pairwise_iff_getElem.mp hr.2 _ _ q1 q3 (by omega)
          · rw [hp] at hp'; cases hp'; exact Int.le_refl _
        · rw [e, e2, kv j, if_neg (by omega)]
          exact high i' h4 h5 j (by omega) h3
      · rw [kv i, kv j, if_neg (by omega), if_neg (by omega)]
        exact ub i j (by omega) h2 h3

/-- the waiting runs, one after another, each rising -/
def Til (xs : Array Keyed) : Nat → List (Nat × Nat × Nat) → Nat → Prop
  | s, [], e => s = e
  | s, x :: r, e => x.1 = s ∧ 1 ≤ x.2.1 ∧ Up xs s (s + x.2.1) ∧ Til xs (s + x.2.1) r e
theorem Til.le {xs : Array Keyed} : ∀ {l : List (Nat × Nat × Nat)} {s e : Nat}, Til xs s l e → s + l.length ≤ e
  | [], s, e, h => by simp [Til] at h; simp; omega
  | x :: l, s, e, ⟨_, h2, _, h4⟩ => by have := h4.le; simp; omega
theorem Til.keep {xs ys : Array Keyed} {lo hi : Nat} (l2 : Loc2 lo hi xs ys) : ∀ {l : List (Nat × Nat × Nat)} {s e : Nat}, Til xs s l e → (e ≤ lo ∨ hi ≤ s) → Til ys s l e
  | [], s, e, h, _ => h
  | x :: l, s, e, ⟨h1, h2, h3, h4⟩, hd => ⟨h1, h2, h3.keep l2 (by have := h4.le; omega), h4.keep l2 (by omega)⟩
theorem Til.app {xs : Array Keyed} : ∀ {l l' : List (Nat × Nat × Nat)} {s e : Nat}, Til xs s (l ++ l') e ↔ ∃ m, Til xs s l m ∧ Til xs m l' e
  | [], l', s, e => ⟨fun h => ⟨s, rfl, h⟩, fun ⟨m, h1, h2⟩ => by simp only [Til] at h1; subst h1; exact h2⟩
  | x :: l, l', s, e => by
    constructor
    · rintro ⟨h1, h2, h3, h4⟩
      obtain ⟨m, h5, h6⟩ := Til.app.mp h4
      exact ⟨m, ⟨h1, h2, h3, h5⟩, h6⟩
    · rintro ⟨m, ⟨h1, h2, h3, h5⟩, h6⟩
      exact ⟨h1, h2, h3, Til.app.mpr ⟨m, h5, h6⟩⟩
theorem Til.modify {xs : Array Keyed} {f : Nat × Nat × Nat → Nat × Nat × Nat} (hf1 : ∀ x, (f x).1 = x.1) (hf2 : ∀ x, (f x).2.1 = x.2.1) : ∀ {l : List (Nat × Nat × Nat)} {n s e : Nat}, Til xs s l e → Til xs s (l.modify n f) e
  | [], n, s, e, h => by cases n <;> exact h
  | x :: l, 0, s, e, ⟨h1, h2, h3, h4⟩ => by
    rw [List.modify_zero_cons]
    refine ⟨(hf1 x).trans h1, ?_, ?_, ?_⟩
    · rw [hf2]; exact h2
    · rw [hf2]; exact h3
    · rw [hf2]; exact h4
  | x :: l, n + 1, s, e, ⟨h1, h2, h3, h4⟩ => by
    rw [List.modify_succ_cons]
    exact ⟨h1, h2, h3, h4.modify hf1 hf2⟩
theorem split2 {α : Type} : ∀ {l : List α} {i : Nat} {x y : α}, l[i]? = some x → l[i + 1]? = some y → ∃ l1 l2, l = l1 ++ x :: y :: l2 ∧ l1.length = i
  | [], i, x, y, h, _ => by simp at h
  | z :: l, 0, x, y, h, h' => by
    simp at h; subst h
    cases l with
    | nil => simp at h'
    | cons y' l2 => simp at h'; subst h'; exact ⟨[], l2, rfl, rfl⟩
  | z :: l, i + 1, x, y, h, h' => by
    simp only [List.getElem?_cons_succ] at h h'
    obtain ⟨l1, l2, rfl, rfl⟩ := split2 h h'
    exact ⟨z :: l1, l2, rfl, rfl⟩

theorem mergeAt'_eq (i : Nat) : mergeAt' i = (do
  let s ← get
  match (pendingOf s)[i]?, (pendingOf s)[i + 1]? with
  | some p, some q => do
    set (setPending s (((pendingOf s).setIfInBounds i (p.1, p.2.1 + q.2.1, p.2.2)).eraseIdxIfInBounds (i + 1)))
    let e ← elem' (arrOf s) q.1
    let x ← gallop' false e (arrOf s) p.1 p.2.1 0
    match x with
    | some k =>
      if (p.2.1 - k == 0) = true then pure true else do
        let e ← elem' (arrOf s) (p.1 + k + (p.2.1 - k) - 1)
        let x ← gallop' true e (arrOf s) q.1 q.2.1 (q.2.1 - 1)
        match x with
        | some m =>
          if (m == 0) = true then pure true else do
            let r ← if p.2.1 - k ≤ m then mergeLo' ((arrOf s).extract (p.1 + k) q.1) ((arrOf s).extract q.1 (q.1 + m)) else mergeHi' ((arrOf s).extract (p.1 + k) q.1) ((arrOf s).extract q.1 (q.1 + m))
            modify fun s => setArr s (putAt (arrOf s) (p.1 + k) r.toList)
            let s ← get
            pure (failedOf s).isNone
        | _ => pure false
    | _ => pure false
  | _, _ => liftM (unsupported "internal:list.sort.pending" : Sem Bool)) := by kernel_rfl

section
variable {prog : Program} {w : World} {A : Around} {E : Value → Shared → Prop} {s : Shared} {a₀ : Array Keyed} {st : SortSt}

theorem ikSub {xs : Array Keyed} (h : IntKeys xs) (i j : Nat) : IntKeys (xs.extract i j) := fun p hp => h p (by
  rw [Array.toList_extract, List.extract_eq_take_drop] at hp
  exact List.mem_of_mem_drop (List.mem_of_mem_take hp))
theorem K_ext {xs : Array Keyed} {i j m : Nat} (h : i + m < j) : K (xs.extract i j) m = K xs (i + m) := by
  refine K_congr ?_
  rw [Array.getElem?_extract]
  split
  · rfl
  · rename_i hh
    rw [Array.getElem?_eq_none (by omega)]
theorem srtSub {xs : Array Keyed} {i j : Nat} (hj : j ≤ xs.size) (h : Up xs i j) : SrtK (xs.extract i j).toList := by
  unfold SrtK
  rw [List.pairwise_iff_getElem]
  intro x y hx hy hxy
  have hx' : x < (xs.extract i j).size := by rw [← Array.length_toList]; exact hx
  have hy' : y < (xs.extract i j).size := by rw [← Array.length_toList]; exact hy
  simp at hx' hy'
  have := h (i + x) (i + y) (by omega) (by omega) (by omega)
  rw [K_eq (by omega), K_eq (by omega)] at this
  simpa [VK] using this

theorem wpS_set {σ : Type} {M : Model} {x st : σ} {Q : PUnit → σ → Prop} (h : Q ⟨⟩ x) : wpS M A E s (set x : StateT σ Sem PUnit) Q st := by
  unfold wpS; rw [StateT.run_set]; exact wpAny_pure ⟨rfl, h⟩

theorem wpS_mergeAt {i e : Nat} {Q : Bool → SortSt → Prop} (h0 : IntKeys a₀) (hB : SB a₀ st) (hT : Til (arrOf st) 0 (pendingOf st).toList e) (he : e ≤ a₀.size) (hi : i + 1 < (pendingOf st).size)
    (h : ∀ st', SB a₀ st' → Til (arrOf st') 0 (pendingOf st').toList e → (pendingOf st').size + 1 = (pendingOf st).size → Loc2 0 e (arrOf st) (arrOf st') → Q true st') : wpS (model prog w) A E s (mergeAt' i) Q st := by
  rw [mergeAt'_eq]
  refine wpS_bind (wpS_get ?_)
  obtain ⟨x, hx⟩ : ∃ x, (pendingOf st)[i]? = some x := ⟨_, getElem?_pos _ i (by omega)⟩
  obtain ⟨y, hy⟩ : ∃ y, (pendingOf st)[i + 1]? = some y := ⟨_, getElem?_pos _ (i + 1) (by omega)⟩
  obtain ⟨l1, l2, hl, hli⟩ := split2 (l := (pendingOf st).toList) (by rw [Array.getElem?_toList]; exact hx) (by rw [Array.getElem?_toList]; exact hy)
  rw [hx, hy]
  dsimp only
  have hT' := hT
  rw [hl] at hT'
  obtain ⟨sa, t1, x1, x2, x3, y1, y2, y3, t2⟩ := Til.app.mp hT'
  obtain ⟨x0, na, pw⟩ := x
  obtain ⟨y0, nb, pw'⟩ := y
  dsimp only at x1 x2 x3 y1 y2 y3 t2 ⊢
  subst x1
  subst y1
  have hle := t2.le
  have asz := hB.size
  have ik := ikPerm h0 hB.perm
  generalize hst1 : setPending st (((pendingOf st).setIfInBounds i (x0, na + nb, pw)).eraseIdxIfInBounds (i + 1)) = st1
  have hp1 : (pendingOf st1).toList = l1 ++ (x0, na + nb, pw) :: l2 := by
    subst hst1
    show (((pendingOf st).setIfInBounds i (x0, na + nb, pw)).eraseIdxIfInBounds (i + 1)).toList = _
    rw [Array.toList_eraseIdxIfInBounds, Array.toList_setIfInBounds, hl, ← hli]
    simp [List.eraseIdx_append_of_length_le]
  have hsz : (pendingOf st1).size + 1 = (pendingOf st).size := by
    rw [← Array.length_toList, hp1, ← Array.length_toList, hl]; simp; omega
  have ha1 : arrOf st1 = arrOf st := by subst hst1; rfl
  have hB1 : SB a₀ st1 := by subst hst1; exact ⟨hB.perm, hB.kind, hB.failed⟩
  -- what is owed at the end
  have fin : ∀ zs : Array Keyed, Loc2 x0 (x0 + na + nb) (arrOf st) zs → Up zs x0 (x0 + na + nb) → Til zs 0 (l1 ++ (x0, na + nb, pw) :: l2) e ∧ Loc2 0 e (arrOf st) zs := fun zs hz hu =>
    ⟨Til.app.mpr ⟨x0, t1.keep hz (by omega), rfl, by show 1 ≤ na + nb; omega, by rw [← Nat.add_assoc]; exact hu, by rw [← Nat.add_assoc]; exact t2.keep hz (by omega)⟩, hz.wide (by omega) (by omega)⟩
  refine wpS_bind (wpS_set ?_)
  obtain ⟨t, q, e1⟩ := ikAt ik (show x0 + na < (arrOf st).size by omega)
  refine wpS_bind (wpS_elem e1 (wpS_bind (wpS_right hB1.kind ik (by omega) (by omega) x3 fun k hk1 hk2 hk3 => ?_)))
  dsimp only
  by_cases hk0 : na - k = 0
  · rw [if_pos (by simpa using hk0)]
    have hkn : k = na := by omega
    subst hkn
    have hu : Up (arrOf st) x0 (x0 + k + nb) := fun i j h1 h2 h3 => by
      by_cases hj : j < x0 + k
      · exact x3 i j h1 h2 hj
      · by_cases hi : i < x0 + k
        · have e2 := hk2 (i - x0) (by omega)
          rw [show x0 + (i - x0) = i by omega] at e2
          exact Int.le_trans e2 (y3 (x0 + k) j (by omega) (by omega) h3)
        · exact y3 i j (by omega) h2 h3
    have hf := fin _ Loc2.rfl hu
    refine wpS_pure (h st1 hB1 ?_ hsz ?_)
    · rw [ha1, hp1]; exact hf.1
    · rw [ha1]; exact hf.2
  · rw [if_neg (by simpa using hk0), show x0 + k + (na - k) - 1 = x0 + na - 1 by omega]
    obtain ⟨t', q', e2⟩ := ikAt ik (show x0 + na - 1 < (arrOf st).size by omega)
    refine wpS_bind (wpS_elem e2 (wpS_bind (wpS_left hB1.kind ik (by omega) (by omega) y3 fun m hm1 hm2 hm3 => ?_)))
    dsimp only
    by_cases hm0 : m = 0
    · subst hm0
      rw [if_pos (by rfl)]
      have hu : Up (arrOf st) x0 (x0 + na + nb) := fun i j h1 h2 h3 => by
        by_cases hj : j < x0 + na
        · exact x3 i j h1 h2 hj
        · by_cases hi : i < x0 + na
          · have e3 := hm3 (j - (x0 + na)) (by omega) (by omega)
            rw [show x0 + na + (j - (x0 + na)) = j by omega] at e3
            exact Int.le_trans (x3 i (x0 + na - 1) h1 (by omega) (by omega)) e3
          · exact y3 i j (by omega) h2 h3
      have hf := fin _ Loc2.rfl hu
      refine wpS_pure (h st1 hB1 ?_ hsz ?_)
      · rw [ha1, hp1]; exact hf.1
      · rw [ha1]; exact hf.2
    · rw [if_neg (by simpa using hm0)]
      have p : Pre ((arrOf st).extract (x0 + k) (x0 + na)) ((arrOf st).extract (x0 + na) (x0 + na + m)) := by
        refine ⟨ikSub ik _ _, ikSub ik _ _, srtSub (by omega) (fun i j h1 h2 h3 => x3 i j (by omega) h2 h3), srtSub (by omega) (fun i j h1 h2 h3 => y3 i j h1 h2 (by omega)), by simp; omega, by simp; omega, ?_, ?_⟩
        · rw [K_ext (by omega), K_ext (by omega)]
          have := hk3 k (by omega) (by omega)
          simpa using this
        · intro j hj
          simp at hj
          rw [K_ext (by omega), K_ext (by simp; omega)]
          have := hm2 j (by omega)
          simp
          rwa [show x0 + k + (min (x0 + na) (arrOf st).size - (x0 + k) - 1) = x0 + na - 1 by omega]
      have post : ∀ v st', Same st1 st' → Res ((arrOf st).extract (x0 + k) (x0 + na)) ((arrOf st).extract (x0 + na) (x0 + na + m)) v →
          wpS (model prog w) A E s (do
            modify fun s => setArr s (putAt (arrOf s) (x0 + k) v.toList)
            let s ← get
            pure (failedOf s).isNone) Q st' := fun v st' sm hr => by
        refine wpS_bind (wpS_modify (wpS_bind (wpS_get ?_)))
        have hm := merged_ok (xs := arrOf st) (by omega) (by omega) hm1 (by omega) x3 y3 hk2 hm3 hk3 hm2 hr
        have hf := fin _ hm.1 hm.2
        have hfl : (failedOf (setArr st' (putAt (arrOf st') (x0 + k) v.toList))) = none := sm.failed.trans hB1.failed
        rw [hfl]
        have ha : arrOf st' = arrOf st := sm.arr.trans ha1
        refine wpS_pure (h _ ⟨?_, sm.kind.trans hB1.kind, hfl⟩ ?_ ?_ ?_)
        · show (putAt (arrOf st') (x0 + k) v.toList).Perm a₀
          rw [ha]; exact hm.1.perm.trans hB.perm
        · show Til (putAt (arrOf st') (x0 + k) v.toList) 0 (pendingOf st').toList e
          rw [ha, sm.pend, hp1]; exact hf.1
        · show (pendingOf st').size + 1 = _
          rw [sm.pend]; exact hsz
        · show Loc2 0 e (arrOf st) (putAt (arrOf st') (x0 + k) v.toList)
          rw [ha]; exact hf.2
      by_cases hc : na - k ≤ m
      · rw [if_pos hc]
        exact wpS_bind (wpS_mergeLo p hB1.kind post)
      · rw [if_neg hc]
        exact wpS_bind (wpS_mergeHi p hB1.kind post)
end
end MineS

namespace MineS
open PySem PyProof.Rows

section
variable {prog : Program} {w : World} {A : Around} {E : Value → Shared → Prop} {s : Shared} {a₀ : Array Keyed} {st : SortSt}


def runTail (sz lo n : Nat) : StateT SortSt Sem (ForInStep (Option Unit × Nat)) := do
  let s ← get
  match (pendingOf s).back? with
  | some y => do
    let r ← forIn [0:sz] ((none, ()) : Option Unit × Unit) fun _ _ => do
      let s ← get
      match (if (pendingOf s).size > 1 then (pendingOf s)[(pendingOf s).size - 2]? else none) with
      | some z =>
        if z.2.2 ≤ power' sz (2 * y.1 + y.2.1) (2 * y.1 + y.2.1 + y.2.1 + n) sz then pure (.done (none, ()))
        else do
          let b ← mergeAt' ((pendingOf s).size - 2)
          if (!b) = true then pure (.done (some (), ())) else pure (.yield (none, ()))
      | _ => pure (.done (none, ()))
    match r.1 with
    | some r => pure (.done (some r, lo))
    | none => do
      modify fun s => setPending s ((pendingOf s).modify ((pendingOf s).size - 1) fun x => (x.1, x.2.1, power' sz (2 * y.1 + y.2.1) (2 * y.1 + y.2.1 + y.2.1 + n) sz))
      modify fun s => setPending s ((pendingOf s).push (lo, n, 0))
      pure (.yield (none, lo + n))
  | _ => do
    modify fun s => setPending s ((pendingOf s).push (lo, n, 0))
    pure (.yield (none, lo + n))

theorem ifLt {c : Prop} [Decidable c] {x y z : Nat} (h1 : x + 1 < z) (h2 : y + 1 < z) : (if c then x else y) + 1 < z := by split <;> assumption
theorem wpS_eq {α : Type} {M : Model} {m m' : StateT SortSt Sem α} {Q : α → SortSt → Prop} (e : m = m') (h : wpS M A E s m' Q st) : wpS M A E s m Q st := by rw [e]; exact h
theorem Til.push {xs : Array Keyed} {p : Array (Nat × Nat × Nat)} {lo n : Nat} (h : Til xs 0 p.toList lo) (hn : 1 ≤ n) (hu : Up xs lo (lo + n)) : Til xs 0 (p.push (lo, n, 0)).toList (lo + n) := by
  rw [Array.toList_push]
  exact Til.app.mpr ⟨lo, h, rfl, hn, hu, rfl⟩

theorem wpS_runTail {lo n : Nat} {Q : ForInStep (Option Unit × Nat) → SortSt → Prop} (h0 : IntKeys a₀) (hB : SB a₀ st) (hT : Til (arrOf st) 0 (pendingOf st).toList lo) (hn : 1 ≤ n) (hz : lo + n ≤ a₀.size) (hu : Up (arrOf st) lo (lo + n))
    (h : ∀ st', SB a₀ st' → Til (arrOf st') 0 (pendingOf st').toList (lo + n) → Q (.yield (none, lo + n)) st') : wpS (model prog w) A E s (runTail a₀.size lo n) Q st := by
  unfold runTail
  refine wpS_bind (wpS_get ?_)
  split
  · rename_i y _
    refine wpS_bind (wpS_mono (wpS_forRange
      (I := fun _ c st' => c = (none, ()) ∧ SB a₀ st' ∧ Til (arrOf st') 0 (pendingOf st').toList lo ∧ Up (arrOf st') lo (lo + n))
      (Q := fun c st' => c = (none, ()) ∧ SB a₀ st' ∧ Til (arrOf st') 0 (pendingOf st').toList lo ∧ Up (arrOf st') lo (lo + n)) ?step (fun _ _ hh => hh) ⟨rfl, hB, hT, hu⟩) ?post)
    case step =>
      rintro x c st' _ hx ⟨rfl, hB', hT', hu'⟩
      refine wpS_bind (wpS_get ?_)
      split
      · rename_i z hz'
        have hsz : (pendingOf st').size > 1 := by
          by_cases hh : (pendingOf st').size > 1
          · exact hh
          · rw [if_neg hh] at hz'; cases hz'
        split
        · exact wpS_pure ⟨rfl, hB', hT', hu'⟩
        · refine wpS_bind (wpS_mergeAt h0 hB' hT' (by omega) (by omega) fun st3 hB3 hT3 _ hl3 => ?_)
          exact wpS_pure ⟨rfl, hB3, hT3, hu'.keep hl3 (by omega)⟩
      · exact wpS_pure ⟨rfl, hB', hT', hu'⟩
    case post =>
      rintro c st' ⟨rfl, hB', hT', hu'⟩
      dsimp only
      refine wpS_bind (wpS_modify (wpS_bind (wpS_modify (wpS_pure (h _ ⟨hB'.perm, hB'.kind, hB'.failed⟩ ?_)))))
      refine Til.push (xs := arrOf st') ?_ hn hu'
      show Til (arrOf st') 0 (Array.modify _ _ _).toList lo
      rw [Array.toList_modify]
      refine Til.modify ?_ ?_ hT' <;> exact fun _ => rfl
  · exact wpS_bind (wpS_modify (wpS_pure (h _ ⟨hB.perm, hB.kind, hB.failed⟩ (Til.push (xs := arrOf st) hT hn hu))))

theorem wpS_runs {Q : Unit → SortSt → Prop} (h0 : IntKeys a₀) (hB : SB a₀ st) (hp : pendingOf st = #[])
    (h : ∀ st', SB a₀ st' → SortedTo (arrOf st') a₀.size → Q () st') : wpS (model prog w) A E s sortRuns' Q st := by
  rw [sortRuns'_eq]
  refine wpS_bind (wpS_get ?_)
  dsimp only
  simp only [hB.size]
  generalize minRun' a₀.size a₀.size 0 = mr
  refine wpS_bind (wpS_mono (wpS_forRange
    (I := fun x c st' => ∃ lo, c = (none, lo) ∧ SB a₀ st' ∧ x ≤ lo ∧ lo ≤ a₀.size ∧ Til (arrOf st') 0 (pendingOf st').toList lo)
    (Q := fun c st' => c = (none, a₀.size) ∧ SB a₀ st' ∧ Til (arrOf st') 0 (pendingOf st').toList a₀.size) ?step ?fin ?init) ?post)
  case init => exact ⟨0, rfl, hB, Nat.le_refl _, Nat.zero_le _, by rw [hp]; exact rfl⟩
  case fin =>
    rintro c st' ⟨lo, rfl, hB', h1, h2, hT⟩
    obtain rfl : lo = a₀.size := by omega
    exact ⟨rfl, hB', hT⟩
  case step =>
    rintro x c st' _ hx ⟨lo, rfl, hB', h1, h2, hT⟩
    dsimp only
    by_cases hlo : lo ≥ a₀.size
    · rw [if_pos hlo]
      obtain rfl : lo = a₀.size := by omega
      exact wpS_pure ⟨rfl, hB', hT⟩
    · rw [if_neg hlo]
      refine wpS_bind (wpS_count h0 (by omega) (by omega) hB' fun n st2 hB2 hp2 hl2 hn1 hn2 hu2 => ?_)
      dsimp only
      have hT2 : Til (arrOf st2) 0 (pendingOf st2).toList lo := by rw [hp2]; exact hT.keep hl2 (by omega)
      by_cases hlt : n < mr
      · rw [if_pos hlt]
        refine wpS_bind (wpS_lift (wpAny_rule ⟨rfl, ?_⟩))
        refine wpS_bind (wpS_binary h0 (by omega) (by omega) hB2 hu2 fun st3 hB3 hp3 hl3 hu3 => ?_)
        have hT3 : Til (arrOf st3) 0 (pendingOf st3).toList lo := by rw [hp3]; exact hT2.keep hl3 (by omega)
        refine wpS_eq (m' := runTail a₀.size lo (min (a₀.size - lo) mr)) (by kernel_rfl) ?_
        exact wpS_runTail (n := min (a₀.size - lo) mr) h0 hB3 hT3 (by omega) (by omega) hu3 fun st4 hB4 hT4 => ⟨_, rfl, hB4, by omega, by omega, hT4⟩
      · rw [if_neg hlt]
        refine wpS_eq (m' := runTail a₀.size lo n) (by kernel_rfl) ?_
        exact wpS_runTail (n := n) h0 hB2 hT2 (by omega) (by omega) hu2 fun st4 hB4 hT4 => ⟨_, rfl, hB4, by omega, by omega, hT4⟩
  case post =>
    rintro c st' ⟨rfl, hB', hT⟩
    dsimp only
    have hz := hT.le
    refine wpS_bind (wpS_mono (wpS_forRange
      (I := fun x c st'' => c = (none, ()) ∧ SB a₀ st'' ∧ Til (arrOf st'') 0 (pendingOf st'').toList a₀.size ∧ ((pendingOf st'').size ≤ 1 ∨ (pendingOf st'').size + x ≤ a₀.size))
      (Q := fun c st'' => c = (none, ()) ∧ SB a₀ st'' ∧ Til (arrOf st'') 0 (pendingOf st'').toList a₀.size ∧ (pendingOf st'').size ≤ 1) ?step ?fin ?init) ?post)
    case init => exact ⟨rfl, hB', hT, .inr (by simpa using hz)⟩
    case fin =>
      rintro c st'' ⟨rfl, hB2, hT2, hs⟩
      exact ⟨rfl, hB2, hT2, by omega⟩
    case step =>
      rintro x c st'' _ hx ⟨rfl, hB2, hT2, hs⟩
      refine wpS_bind (wpS_get ?_)
      by_cases h1 : (pendingOf st'').size ≤ 1
      · rw [if_pos h1]
        exact wpS_pure ⟨rfl, hB2, hT2, h1⟩
      · rw [if_neg h1]
        refine wpS_bind (wpS_mergeAt h0 hB2 hT2 (Nat.le_refl _) (ifLt (by omega) (by omega)) fun st3 hB3 hT3 hs3 _ => ?_)
        exact wpS_pure ⟨rfl, hB3, hT3, by omega⟩
    case post =>
      rintro c st'' ⟨rfl, hB2, hT2, hs⟩
      refine wpS_pure (h _ hB2 fun i j hij hj => ?_)
      have hlen : (pendingOf st'').toList.length ≤ 1 := by simpa using hs
      match hl : (pendingOf st'').toList, hlen, hT2 with
      | [], _, hT3 => simp only [Til] at hT3; omega
      | [x], _, hT3 =>
        obtain ⟨q1, q2, q3, q4⟩ := hT3
        simp only [Til] at q4
        exact q3 i j (by omega) hij (by omega)
end
end MineS

namespace MineS
open PySem PyProof.Rows

section
variable {prog : Program} {w : World} {A : Around} {E : Value → Shared → Prop} {s : Shared}

theorem sort_any {a : Addr} {vs : List Value} {ns : List Int} {n : Nat} {P : Fin → Shared → Prop} (ho : s.heap.get? a = some (seqObj "list" vs.toArray n))
    (hI : IntsAre vs ns) (hz : vs.length ≤ sizeLine)
    (h : ∀ (out : Array Value) (ns' : List Int), IntsAre out.toList ns' → ns'.Perm ns → ns'.Pairwise (· ≤ ·) → P (.done (.ret .none)) { s with heap := sortedHeap s.heap a vs out }) :
    wpAny (model prog w) A (Builtin.«list.sort» ⟨[.ref a], []⟩) P E s := by
  by_cases h64 : vs.length < 64
  · exact list_sort_tree ho hI h64 h
  rw [list_sort_plain]
  have la : a < s.heap.objs.size := Heap.lt_size ho
  refine wpAny_bind (listItems_at ho rfl (wpAny_bind (listUpdate_at ho rfl ?_)))
  obtain ⟨e1, ho1⟩ : ∃ e1, (s.heap.update a (Obj.mapSeq fun _ => #[])).get? a = some (seqObj "list" #[] e1) := ⟨_, get?_update_seq ho (fun _ => #[])⟩
  refine wpAny_bind (seqEpoch_at ho1 rfl (wpAny_bind (wpAny_newTuple (wpAny_bind (wpAny_newList (wpAny_holding ?_))))))
  have ho6 : (((s.heap.update a (Obj.mapSeq fun _ => #[])).push (seqObj "tuple" vs.toArray 0)).push (seqObj "list" #[] 0)).get? a = some (seqObj "list" #[] e1) := by
    rw [Heap.get?_push_ne _ _ _ (by rw [size_push', Heap.size_update]; exact Nat.ne_of_lt (Nat.lt_succ_of_lt la)), Heap.get?_push_ne _ _ _ (by rw [Heap.size_update]; exact Nat.ne_of_lt la)]
    exact ho1
  show wpAny (model prog w) A _ P E { s with heap := ((s.heap.update a (Obj.mapSeq fun _ => #[])).push (seqObj "tuple" vs.toArray 0)).push (seqObj "list" #[] 0) }
  dsimp only
  have h2 : ¬ vs.toArray.size < 2 := by simp; omega
  rw [if_neg h2, if_neg h2]
  have kk : keyKind' vs.toArray = pure oneType' := by
    match vs, h64, hI with
    | v₁ :: v₂ :: rest, _, hI => exact keyKind_ints hI
    | [], h64, _ => simp at h64
    | [_], h64, _ => simp at h64
  rw [kk]
  refine wpAny_bind (wpAny_pure ?_)
  refine wpAny_bind (wpAny_mono (wpS_runs (a₀ := pairsOf vs) (st := SortSt.mk' oneType' (vs.toArray.zip vs.toArray) #[] 7 none)
    (Q := fun _ st' => SB (pairsOf vs) st' ∧ SortedTo (arrOf st') (pairsOf vs).size) hI.intKeys ⟨Array.Perm.refl _, rfl, rfl⟩ rfl fun st' a1 a2 => ⟨a1, a2⟩) ?_ fun _ _ e => e)
  rintro ⟨⟨⟩, st'⟩ s' ⟨rfl, hB, hs⟩
  obtain ⟨ns', q1, q2, q3⟩ := sorted_out hI hB.perm hs
  refine wpAny_bind (seqEpoch_at ho6 rfl (wpAny_bind (listUpdate_at ho6 rfl ?_ (hsz2 := ?_))))
  · rw [hB.failed]
    simp only [bne_self_eq_false, Bool.false_eq_true, if_false]
    exact wpAny_pure (h _ ns' q1 q2 q3)
  · have e1 : (Array.map (fun x => x.snd) (arrOf st')).size = vs.length := by rw [Array.size_map, hB.size, pairsOf_size]
    show (Array.map (fun x => x.snd) (arrOf st')).size ≤ sizeLine + 1
    omega

theorem sorted_any {l : Addr} {vs : List Value} {ns : List Int} {Q : Value → Shared → Prop} (hl : s.heap.IsList l vs.toArray) (hI : IntsAre vs ns) (hz : vs.length ≤ sizeLine)
    (h : ∀ (out : Array Value) (ns' : List Int), IntsAre out.toList ns' → ns'.Perm ns → ns'.Pairwise (· ≤ ·) → Q (.ref (s.heap.objs.size + 1)) { s with heap := sortedAll s.heap vs out }) :
    wpAny (model prog w) A (call (.builtin "sorted") [.ref l]) Q E s := by
  refine Calls.call_function_entry kind_sorted plain_sorted entry_sorted (args_sorted1 _) ?_
  unfold Builtin.«sorted»
  refine wpAny_bind (m := checkCount "sorted" 1 1 _) (wpAny_pure (wpAny_bind (collect_list hl (wpAny_bind (wpAny_newList ?_)))))
  have hsz : ((s.heap.push (seqObj "list" #[] 0)).update s.heap.objs.size (Obj.mapSeq (· ++ vs.toArray))).objs.size = s.heap.objs.size + 1 := by
    rw [Heap.size_update, size_push']
  have hoL : (((s.heap.push (seqObj "list" #[] 0)).update s.heap.objs.size (Obj.mapSeq (· ++ vs.toArray))).push (seqObj "list" vs.toArray 0)).get? (s.heap.objs.size + 1) = some (seqObj "list" vs.toArray 0) := by
    rw [← hsz]; exact Heap.get?_push_size _ rfl
  show wpAny _ _ _ _ _ { s with heap := ((s.heap.push (seqObj "list" #[] 0)).update s.heap.objs.size (Obj.mapSeq (· ++ vs.toArray))).push (seqObj "list" vs.toArray 0) }
  rw [hsz]
  refine wpAny_bind (wpAny_holding (wpAny_call_entry slot_list_sort ⟨_, hoL, rfl⟩ entry_list_sort (sort_any hoL hI hz fun out ns' a1 a2 a3 => ⟨_, rfl, wpAny_pure ⟨_, rfl, h out ns' a1 a2 a3⟩⟩) (args_list_sort _)))
end
end MineS

namespace Mine
open PySem PySem.Calls PyProof.Rows PySem.W

section
variable {X : Cx} {F : Fx} {sc : Scope} {n : Nat} {E : EQ} {lo ce : Loc} {mh : MH}
variable {kd kd' : ScopeKind} {ns ns' ns2 : List (Str × NameKind)} {ig ic ig' ic' : Bool} {mo mo' : List (Str × Const)}

theorem CallV.sorted {a : Addr} {ns : List Int} {Q : VQ} (la : LstAt X mh a (ns.map .int)) (h : ∀ c (ns' : List Int), ns'.Perm ns → ns'.Pairwise (· ≤ ·) → mh c = none → X.H0.get? c = none → Q (.ref c) lo ce (mh.set c (.list (ns'.map .int)))) : CallV X F (.builtin "sorted") [.ref a] Q E lo ce mh := by
  intro f as hf has s r
  obtain rfl := er_builtin hf
  obtain ⟨v, rfl, hv⟩ := map_er1 has
  obtain rfl := er_ref hv
  obtain ⟨items, hl, eq, z⟩ := la.get r
  refine MineS.sorted_any (vs := items.toList) (by simpa using hl) (intsAre eq) (by have := map_er_len eq; simp at this z ⊢; omega) fun out ns' a1 a2 a3 => ?_
  obtain ⟨e, he⟩ := sortedAll_at s.heap items.toList out
  have hn := past_none (Nat.le_succ s.heap.objs.size)
  have f := r.foreign hn
  refine Post.make (tk := s.toks) r (fun b o => sortedAll_old) hn (mo := .list (ns'.map .int)) ⟨out, ⟨e, he⟩, er_ints a1, ?_⟩ (h _ ns' a2 a3 f.2.1 f.1)
  have := a2.length_eq
  simp only [List.length_map] at z ⊢
  omega
theorem WS.assignCellComp {elt target iter : Expr} {ifs : List Expr} {cpos pos p : Pos} {x : Str} {Q : FQ} (ok : Ok F ⟨kd, ns, ig, ic, mo⟩ n) (hx : (x, NameKind.cell) ∈ ns)
    (h : WE X F (.ListComp elt [⟨target, iter, ifs, 0⟩] ⟨kd', ns', ig', ic', mo'⟩ cpos) (fun v l1 c1 m1 => StoV X F x v (fun l2 c2 m2 => Q .next l2 c2 m2) E l1 c1 m1) E lo ce mh) :
    WS X F (.Assign [.Name x p] (.ListComp elt [⟨target, iter, ifs, 0⟩] ⟨kd', ns', ig', ic', mo'⟩ cpos) pos) Q E lo ce mh := by
  refine WS.assign h ?_
  obtain ⟨e1, e2, e3, e4, e5, e6⟩ := ok.he
  have hk : F.env.kindOf x = some .cell := by
    show F.env.scope.names.lookup x = _
    rw [e1, ok.hsc]; exact lookup_of_nodup ok.nd _ hx
  show pure (F.env.blockKind == .function && F.env.kindOf x == some .local && p.line == cpos.line && !(ns'.any fun (n, k) => n == x && (k == .local || k == .cell))) = pure false
  rw [hk]
  have e : ((some NameKind.cell == some NameKind.local) : Bool) = false := by rfl
  rw [e]; simp
end
end Mine

namespace Mine
open PySem PySem.Calls PyProof.Rows PySem.W

local macro_rules | `(tactic| walk_at "look") => `(tactic| first | with_reducible exact Look.here | (with_reducible apply Look.there; walk_at "look"))
local macro_rules | `(tactic| walk_at "put") => `(tactic| first | with_reducible exact Put.here | (with_reducible apply Put.there; walk_at "put"))
local macro_rules | `(tactic| walk_at "mem") => `(tactic| first | with_reducible exact List.mem_cons_self | (with_reducible apply List.mem_cons_of_mem; walk_at "mem"))
local macro_rules | `(tactic| walk_at "init") => `(tactic| first
  | (apply InitP.loc; walk_at "init")
  | (apply InitP.cell; walk_at "init")
  | (apply InitP.done; walk_at "init")
  | with_reducible exact InitR.nil
  | (with_reducible apply InitR.loc; walk_at "init")
  | (with_reducible apply InitR.cell; walk_at "init")
  | (with_reducible apply InitR.glob; walk_at "init"))
local macro_rules | `(tactic| walk_at "relab") => `(tactic| first
  | with_reducible exact RelabR.nil
  | (with_reducible apply RelabR.loc; walk_at "relab")
  | (with_reducible apply RelabR.glob; walk_at "relab")
  | (with_reducible apply RelabR.free; walk_at "mem"; walk_at "relab"))
local macro_rules | `(tactic| walk_at "celof") => `(tactic| first
  | with_reducible exact CelOf.nil
  | (with_reducible apply CelOf.loc; walk_at "celof")
  | (with_reducible apply CelOf.glob; walk_at "celof")
  | (with_reducible apply CelOf.free; walk_at "mem"; walk_at "celof"))
local macro_rules | `(tactic| walk_at "comp") => `(tactic| first
  | ((with_reducible show WS _ _ (Stmt.Assign [Expr.Name _ _] (Expr.ListComp _ [⟨Expr.Name _ _, _, _, _⟩] _ _) _) _ _ _ _ _); apply WS.assignComp1; (case ok => assumption); (case hre => walk_at "relab"); (case hce0 => walk_at "celof"); (case hxs => walk_at "mem"); (case hx => walk_at "mem"); (case hsc => decide +kernel); (case hline => decide +kernel); (case hno => decide +kernel); (case hs => intro _; rfl))
  | ((with_reducible show WS _ _ (Stmt.Assign [Expr.Name _ _] (Expr.ListComp _ _ _ _) _) _ _ _ _ _); apply WS.assignCellComp; (case ok => assumption); (case hx => walk_at "mem"))
  | ((with_reducible show WE _ _ (Expr.ListComp _ [⟨Expr.Name _ _, _, _, _⟩] _ _) _ _ _ _ _); apply WE.comp1; (case ok => assumption); (case hre => walk_at "relab"); (case hce0 => walk_at "celof"); (case hxs => walk_at "mem"); (case hsc => decide +kernel); (case hs => intro _; rfl))
  | ((with_reducible show WE _ _ (Expr.ListComp _ [⟨Expr.Tuple _ _ _, _, _, _⟩] _ _) _ _ _ _ _); apply WE.comp2; (case ok => assumption); (case hre => walk_at "relab"); (case hce0 => walk_at "celof"); (case hx1 => walk_at "mem"); (case hx2 => walk_at "mem"); (case hne => decide +kernel); (case hsc => decide +kernel); (case hs => intro _; rfl))
  | ((with_reducible show WI _ _ (Expr.Name _ _) _ _ _ _ _); apply WI.lst; (case ok => assumption))
  | ((with_reducible show WI _ _ (Expr.Call _ _ _ _) _ _ _ _ _); refine WI.call ?_)
  | with_reducible refine WTests.nil ?_
  | with_reducible refine WTests.one ?_)
local macro_rules | `(tactic| walk_at "w") => `(tactic| first
  | ((with_reducible show WE _ _ (Expr.Name _ _) _ _ _ _ _); first
      | (with_reducible apply WE.local; (case ok => assumption); (case hx => walk_at "look"))
      | (with_reducible apply WE.cell; (case ok => assumption); (case hx => walk_at "look"))
      | (with_reducible apply WE.global; (case ok => assumption); (case g => assumption); (case hk' => walk_at "mem")))
  | with_reducible refine WE.cint ?_
  | with_reducible refine WE.cbool ?_
  | with_reducible refine WE.binop ?_
  | with_reducible refine BinV.add ?_
  | with_reducible refine BinV.sub ?_
  | (with_reducible refine BinV.mod ?h ?_; (case h => decide))
  | (with_reducible refine BinV.div ?h1 ?h2 ?_; (case h1 => decide); (case h2 => decide))
  | (with_reducible refine BinV.mul ?h ?_; (case h => first | exact IntMulOk.of_left (by decide) | exact IntMulOk.of_right (by decide)))
  | with_reducible refine WB.cons ?_
  | with_reducible refine WB.nil ?_
  | with_reducible refine WS.ret ?_
  | ((with_reducible show WS _ _ (Stmt.Assign [Expr.Name _ _] _ _) _ _ _ _ _); (fail_if_success (with_reducible show WS _ _ (Stmt.Assign [Expr.Name _ _] (Expr.ListComp _ _ _ _) _) _ _ _ _ _)); refine WS.assign ?_)
  | ((with_reducible show WS _ _ (Stmt.Expr _ _) _ _ _ _ _); apply WS.exprOk; (case ok => assumption); (case hs => rfl))
  | ((with_reducible show StoV _ _ _ _ _ _ _ _ _); with_reducible apply StoV.local; (case ok => assumption); (case hp => walk_at "put"))
  | ((with_reducible show StoV _ _ _ _ _ _ _ _ _); with_reducible apply StoV.cell'; (case ok => assumption); (case cel => assumption); (case hp => walk_at "put"); (case hx => walk_at "mem"))
  | ((with_reducible show WE _ _ (Expr.Call (Expr.Name _ _) (_ :: _) [] _) _ _ _ _ _); refine WE.call ?_)
  | ((with_reducible show WE _ _ (Expr.Call (Expr.Attribute _ _ _) (_ :: _) [] _) _ _ _ _ _); refine WE.meth ?_)
  | with_reducible refine And.intro KeepV.builtin ?_
  | with_reducible refine And.intro KeepV.type ?_
  | ((with_reducible show (KeepV _ _) ∧ _); refine And.intro (KeepV.def (by assumption)) ?_)
  | with_reducible refine WL.nil ?_
  | ((with_reducible show WL _ _ (_ :: _) _ _ _ _ _ _); refine WL.cons ?_)
  | ((with_reducible show WE _ _ (Expr.Compare _ [_] [_] _) _ _ _ _ _); refine WE.cmp ?_)
  | ((with_reducible show WT _ _ (Expr.Compare _ [_] [_] _) _ _ _ _ _); refine WT.cmp ?_)
  | with_reducible refine CmpV.lt ?_
  | with_reducible refine CmpV.le ?_
  | with_reducible refine CmpV.eq ?_
  | with_reducible refine CmpV.ne ?_
  | with_reducible refine TruV.tbool ?_
  | with_reducible refine andT ?_
  | with_reducible refine andF ?_
  | with_reducible refine andN ?_
  | with_reducible refine WE.sub ?_
  | with_reducible refine WE.unop ?_
  | with_reducible refine UnV.neg ?_
  | with_reducible refine UnV.not ?_
  | ((with_reducible show CallV _ _ (Val.builtin "len") _ _ _ _ _ _); with_reducible apply CallV.len; (case la => assumption))
  | ((with_reducible show CallV _ _ (Val.builtin "len") _ _ _ _ _ _); with_reducible apply CallV.lenTup; (case la => assumption))
  | with_reducible refine CallV.isiInt ?_
  | with_reducible refine CallV.isiIntBool ?_
  | ((with_reducible show CallV _ _ (Val.builtin "isinstance") [_, Val.type "list"] _ _ _ _ _); with_reducible apply CallV.isiList; (case la => assumption))
  | ((with_reducible show CallV _ _ (Val.builtin "isinstance") [_, Val.type "tuple"] _ _ _ _ _); with_reducible apply CallV.isiTup; (case la => assumption))
  | with_reducible refine WT.boolop ?_
  | with_reducible refine WTA.and ?_
  | with_reducible refine WTA.or ?_
  | with_reducible refine WTA.nilAnd ?_
  | with_reducible refine WTA.nilOr ?_
  | with_reducible refine WT.not ?_
  | with_reducible refine WE.and ?_
  | with_reducible refine WE.and1 ?_
  | with_reducible refine WE.list ?_
  | with_reducible refine WE.tuple ?_
  | with_reducible refine AssV.name ?_
  | with_reducible refine AssL.nil ?_
  | ((with_reducible show AssL _ _ (_ :: _) _ _ _ _ _ _); refine AssL.cons ?_)
  | ((with_reducible show WT _ _ (Expr.Name _ _) _ _ _ _ _); refine WT.plain ?_)
  | ((with_reducible show WT _ _ (Expr.Call _ _ _ _) _ _ _ _ _); refine WT.plain ?_)
  | ((with_reducible show WT _ _ (Expr.Subscript _ _ _) _ _ _ _ _); refine WT.plain ?_))
local macro_rules | `(tactic| walk_at "i") => `(tactic| ((with_reducible refine WS.if ?_); repeat walk_at "w"))

open_top hd1 for PySem.Challenge.rw_uf050014_01

abbrev P1 : List Stmt := PySem.Challenge.pw_uf050014_01.main.body

structure F1s where
  (exact halved cell mixed reading whole row like : Addr)
structure D1 (X : Cx) (a : F1s) : Prop where
  exact : FnIs X.H0 a.exact (stmtAt P1 1)
  halved : FnIs X.H0 a.halved (stmtAt P1 2)
  cell : FnIs X.H0 a.cell (stmtAt P1 4)
  mixed : FnIs X.H0 a.mixed (stmtAt P1 5)
  reading : FnIs X.H0 a.reading (stmtAt P1 6)
  whole : FnIs X.H0 a.whole (stmtAt P1 7)
  row : FnIs X.H0 a.row (stmtAt P1 8)
  like : FnIs X.H0 a.like (stmtAt P1 9)
  gexact : Glb X.H0 "exact" (.ref a.exact)
  ghalved : Glb X.H0 "halved" (.ref a.halved)
  gcell : Glb X.H0 "_law_cell" (.ref a.cell)
  gmixed : Glb X.H0 "_law_mixed" (.ref a.mixed)
  greading : Glb X.H0 "_law_reading" (.ref a.reading)
  gwhole : Glb X.H0 "_law_whole" (.ref a.whole)
  grow : Glb X.H0 "_law_row" (.ref a.row)
  glike : Glb X.H0 "_law_entries_like" (.ref a.like)
  glen : Glb X.H0 "len" (.builtin "len")
  gisinstance : Glb X.H0 "isinstance" (.builtin "isinstance")
  gint : Glb X.H0 "int" (.type "int")
  gbool : Glb X.H0 "bool" (.type "bool")
  gsorted : Glb X.H0 "sorted" (.builtin "sorted")
  grange : Glb X.H0 "range" (.type "range")
  genumerate : Glb X.H0 "enumerate" (.type "enumerate")
  glist : Glb X.H0 "list" (.type "list")
  gtuple : Glb X.H0 "tuple" (.type "tuple")
  gzip : Glb X.H0 "zip" (.type "zip")
  gall : Glb X.H0 "all" (.builtin "all")

section
variable {X : Cx} {a : F1s} {F : Fx} {n : Nat} {E : EQ} {lo ce : Loc} {mh : MH}

theorem ten18 : (10 : Int) ^ 18 = 1000000000000000000 := by decide
def cellZ (zs : List Int) (k : Int) : Int := zs.getD k.toNat 0

theorem cell_spec (D : D1 X a) (room : Room F.A (n + 1)) {s : Addr} {zs : List Int} (hs : LstAt X mh s (zs.map Val.int)) {k : Int} (hk : 0 ≤ k) {Q : VQ} (h : Q (.int (cellZ zs k)) lo ce mh) :
    CallV X F (.ref a.cell) [.ref s, .int k] Q E lo ce mh := by
  have glen := D.glen
  apply CallV.def (n := n) (ps := ["_law_script", "_law_k"]) D.cell room rfl rfl rfl
  case hi => walk_at "init"
  intro F' ok cel
  repeat walk_at "w"
  walk_at "i"
  with_reducible apply andD <;> intro h1
  · repeat walk_at "w"
    have h1' : k.toNat < zs.length := by simp at h1; omega
    refine SubV.lst (x := .int (cellZ zs k)) hs hk ?_ h
    simp [cellZ, h1']
  · repeat walk_at "w"
    have h1' : zs.length ≤ k.toNat := by simp at h1; omega
    have : cellZ zs k = 0 := by simp [cellZ, h1']
    rw [this] at h
    exact h

def mixedZ (c k : Int) : Int := ((c + 7919 * k) * 48271 % 2147483647) * ((c + 7919 * k) * 48271 % 2147483647 + 2 * k + 1) % 2147483629
theorem mixed_spec (D : D1 X a) (room : Room F.A (n + 1)) {c k : Int} {Q : VQ} (h : Q (.int (mixedZ c k)) lo ce mh) : CallV X F (.ref a.mixed) [.int c, .int k] Q E lo ce mh := by
  apply CallV.def (n := n) (ps := ["_law_cell_here", "_law_k"]) D.mixed room rfl rfl rfl
  case hi => walk_at "init"
  intro F' ok cel
  repeat walk_at "w"
  refine BinV.mul (IntMulOk.of_left (intBits_le_64 ?_ ?_)) ?_
  · have := Int.emod_nonneg ((c + 7919 * k) * 48271) (b := 2147483647) (by decide)
    omega
  · have := Int.emod_lt_of_pos ((c + 7919 * k) * 48271) (b := 2147483647) (by decide)
    omega
  repeat walk_at "w"
  exact h
theorem mixedZ_pos (c k : Int) : 0 ≤ mixedZ c k ∧ mixedZ c k < 2147483629 := ⟨Int.emod_nonneg _ (by decide), Int.emod_lt_of_pos _ (by decide)⟩

theorem reading_spec (D : D1 X a) (room : Room F.A (n + 2)) {c : Int} {Q : VQ} (h : ∀ v m, MLe mh m → Q (.int v) lo ce m) : CallV X F (.ref a.reading) [.int c] Q E lo ce mh := by
  have gm := D.gmixed
  have fm := D.mixed
  apply CallV.def (n := n + 1) (ps := ["_law_cell_here"]) D.reading room rfl rfl rfl
  case hi => walk_at "init"
  intro F' ok cel
  repeat walk_at "w"
  apply mixed_spec (n := n) D ok.room
  have hm := mixedZ_pos c 1
  generalize mixedZ c 1 = u at hm
  repeat walk_at "w"
  walk_at "i"
  with_reducible apply andD <;> intro h1
  · repeat walk_at "w"
    exact h _ _ .rfl
  repeat walk_at "w"
  walk_at "i"
  with_reducible apply andD <;> intro h1
  · repeat walk_at "w"
    exact h _ _ .rfl
  repeat walk_at "w"
  walk_at "i"
  with_reducible apply andD <;> intro h1
  · repeat walk_at "w"
    refine BinV.pow (n := 18) (by decide) (by decide) ?_
    rw [ten18]
    repeat walk_at "w"
    refine BinV.pow (n := 18) (by decide) (by decide) ?_
    rw [ten18]
    repeat walk_at "w"
    refine ⟨by decide, fun b hb _ => ?_⟩
    repeat walk_at "w"
    have h0 := Int.emod_nonneg (u / 27) (b := 2) (by decide)
    have h1 := Int.emod_lt_of_pos (u / 27) (b := 2) (by decide)
    have h2 : u / 27 % 2 = 0 ∨ u / 27 % 2 = 1 := by omega
    rcases h2 with e | e
    · rw [e]
      exact SubV.lst (.own MH.set_same) (by decide) rfl (h _ _ (.new hb))
    · rw [e]
      exact SubV.lst (.own MH.set_same) (by decide) rfl (h _ _ (.new hb))
  · repeat walk_at "w"
    refine BinV.mul (IntMulOk.of_left (intBits_le_64 (by omega) (by omega))) ?_
    repeat walk_at "w"
    refine BinV.pow (n := 18) (by decide) (by decide) ?_
    rw [ten18]
    repeat walk_at "w"
    refine BinV.pow (n := 18) (by decide) (by decide) ?_
    rw [ten18]
    repeat walk_at "w"
    exact h _ _ .rfl

theorem whole_spec (D : D1 X a) (room : Room F.A (n + 1)) {x y : Int} {Q : VQ} (h : Q (.bool (decide (x = y))) lo ce mh) : CallV X F (.ref a.whole) [.int x, .int y] Q E lo ce mh := by
  have g1 := D.gisinstance
  have g2 := D.gint
  have g3 := D.gbool
  apply CallV.def (n := n) (ps := ["_law_found", "_law_due"]) D.whole room rfl rfl rfl
  case hi => walk_at "init"
  intro F' ok cel
  repeat walk_at "w"
  exact h


theorem valAll {xs : List Val} : ∀ y ∈ xs.map Yd.val, ∃ v, y = .val v := fun y hy => by
  obtain ⟨v, _, rfl⟩ := List.mem_map.mp hy
  exact ⟨v, rfl⟩

theorem rangeVal {b c : Int} {n : Nat} : ∀ y ∈ rangeYs b c n, ∃ v, y = .val v := fun y hy => by
  unfold rangeYs at hy
  obtain ⟨v, _, rfl⟩ := List.mem_map.mp hy
  exact ⟨_, rfl⟩

theorem entV_len (e : Ent) : (entV e).length = 3 := rfl
theorem entV_get {e : Ent} {i : Nat} {y : Val} (h : (entV e)[i]? = some y) : ∃ v, y = .int v := by
  match i, h with
  | 0, h => cases h; exact ⟨_, rfl⟩
  | 1, h => cases h; exact ⟨_, rfl⟩
  | 2, h => cases h; exact ⟨_, rfl⟩
theorem zipPair {xs ys : List Val} : ∀ y ∈ zipYs xs ys, ∃ v w, y = .tup [v, w] := fun y hy => by
  obtain ⟨i, hi⟩ := List.mem_iff_getElem?.mp hy
  obtain ⟨a, b, _, _, rfl⟩ := zipYs_get.mp hi
  exact ⟨a, b, rfl⟩

theorem like_spec (D : D1 X a) (room : Room F.A (n + 2)) {f d : Addr} {es : List Ent} (hf : EL mh f es) (hd : EL mh d es) {Q : VQ} (h : ∀ m, MLe mh m → Q (.bool true) lo ce m) : CallV X F (.ref a.like) [.ref f, .ref d] Q E lo ce mh := by
  have g1 := D.gisinstance
  have g2 := D.glist
  have g3 := D.glen
  have g4 := D.gzip
  have g5 := D.gtuple
  have g6 := D.gall
  have g7 := D.gwhole
  have f7 := D.whole
  have hsz : 1000 ≤ sizeLine := by decide
  obtain ⟨ts, hf1, hf2⟩ := hf
  obtain ⟨us, hd1, hd2⟩ := hd
  have Lf : LstAt X mh f (ts.map .ref) := .own hf1
  have Ld : LstAt X mh d (us.map .ref) := .own hd1
  have hlen : (ts.map Val.ref).length = (us.map Val.ref).length := by rw [List.length_map, List.length_map, hf2.len, hd2.len]
  apply CallV.def (n := n + 1) (ps := ["_law_found", "_law_due"]) D.like room rfl rfl rfl
  case hi => walk_at "init"
  intro F' ok cel
  repeat walk_at "w"
  walk_at "i"
  rw [hlen]
  with_reducible apply andD <;> intro h1
  · exact absurd rfl h1
  repeat walk_at "w"
  refine WS.for ?_
  walk_at "comp"
  repeat walk_at "w"
  refine ICallV.zip ok Lf Ld ?_
  refine ⟨fun i l c m => ∃ (p q : Option Val), l = ([("_law_found", some (.ref f)), ("_law_due", some (.ref d)), ("_law_one", p), ("_law_other", q)] : Loc) ∧ c = [] ∧ MLe mh m, ⟨none, none, rfl, rfl, .rfl⟩, ?_, ?_, ?_, ?_⟩
  · rintro i l c m ⟨p, q, _, _, l⟩
    exact ⟨Lf.mono l, Ld.mono l⟩
  · intro y hy
    obtain ⟨v, w, rfl⟩ := zipPair y hy
    exact ⟨_, _, _, rfl⟩
  · rintro i y l c m hy ⟨p, q, rfl, rfl, l⟩
    obtain ⟨v, w, hv, hw, rfl⟩ := zipYs_get.mp hy
    rw [List.getElem?_map] at hv hw
    obtain ⟨t, gt, rfl⟩ := Option.map_eq_some_iff.mp hv
    obtain ⟨u, gu, rfl⟩ := Option.map_eq_some_iff.mp hw
    obtain ⟨e, ge, te⟩ := hf2.get' gt
    obtain ⟨e', ge', tu⟩ := hd2.get' gu
    rw [ge] at ge'
    cases ge'
    intro T hT hT0
    have lT := MLe.new (o := .tup [.ref t, .ref u]) hT
    have tt := lT _ _ (l _ _ te)
    have tu' := lT _ _ (l _ _ tu)
    refine AssV.tuple ok MH.set_same ?_
    repeat walk_at "w"
    walk_at "i"
    with_reducible apply andD <;> intro h2
    · exact absurd rfl h2
    repeat walk_at "w"
    walk_at "i"
    walk_at "comp"
    walk_at "comp"
    repeat walk_at "w"
    have l1 := l.trans lT
    refine ICallV.zipT ok tt tu' ?_
    refine ⟨_, fun i acc m' => acc = (List.replicate i true).map .bool ∧ MLe (m.set T (.tup [.ref t, .ref u])) m', by walk_at "celof", ⟨rfl, .rfl⟩, ?_, zipPair, ?_, ?_⟩
    · rintro i acc m' ⟨_, l'⟩
      exact ⟨l' _ _ tt, l' _ _ tu'⟩
    · rintro F2 ok2 i y z acc m' T' hy ⟨rfl, l'⟩ hT' hT0'
      obtain ⟨v, w, hv, hw, e1⟩ := zipYs_get.mp hy
      cases e1
      rw [hv] at hw
      cases hw
      obtain ⟨x, rfl⟩ := entV_get hv
      have hi3 := (List.getElem?_eq_some_iff.mp hv).1
      rw [entV_len] at hi3
      repeat (first | walk_at "comp" | walk_at "w")
      refine whole_spec (n := n) D ok2.room ?_
      rw [decide_eq_true rfl]
      exact ⟨⟨by simp [List.replicate_succ'], l'.trans (.new hT')⟩, by simp; omega⟩
    · rintro acc m' A ⟨rfl, l'⟩ hA hA0
      repeat walk_at "w"
      refine CallV.all ok (.own MH.set_same) ?_
      have : (List.replicate (zipYs (entV e) (entV e)).length true).all id = true := by simp
      rw [this]
      repeat walk_at "w"
      exact ⟨_, _, rfl, rfl, (l1.trans l').trans (.new hA)⟩
  · rintro l c m ⟨p, q, rfl, rfl, l⟩
    repeat walk_at "w"
    exact h m l

end

section
variable {X : Cx} {a : F1s} {F : Fx} {n : Nat} {E : EQ} {lo ce : Loc} {mh : MH}

theorem row_spec (D : D1 X a) (room : Room F.A (n + 3)) {s : Addr} {zs : List Int} (hs : LstAt X mh s (zs.map Val.int)) {Q : VQ}
    (h : ∀ r m (row : List Int), MLe mh m → mh r = none → m r = some (.list (row.map Val.int)) → row.length ≤ 90 → Q (.ref r) lo ce m) : CallV X F (.ref a.row) [.ref s] Q E lo ce mh := by
  have g2 := D.grange
  have g3 := D.greading
  have g4 := D.gcell
  have f3 := D.reading
  have f4 := D.cell
  have hsz : 1000 ≤ sizeLine := by decide
  apply CallV.def (n := n + 2) (ps := ["_law_script"]) D.row room rfl rfl rfl
  case hi => walk_at "init"
  intro F' ok cel
  repeat walk_at "w"
  refine cell_spec (n := n + 1) D ok.room hs (by decide) ?_
  generalize cellZ zs 0 = c
  repeat walk_at "w"
  refine WS.ifJ (fun l ce' m => ∃ k : Int, 0 ≤ k ∧ k ≤ 90 ∧ l = ([("_law_cell_here", some (.int c)), ("_law_many", some (.int k))] : Loc) ∧ ce' = ([("_law_script", some (.ref s))] : Loc) ∧ mh = m) ?_ ?_
  · repeat walk_at "w"
    with_reducible apply andD <;> intro h1
    · repeat walk_at "w"
      have h2 := Int.emod_nonneg (c / 78) (b := 91) (by decide)
      have h3 := Int.emod_lt_of_pos (c / 78) (b := 91) (by decide)
      exact ⟨rfl, _, h2, by omega, rfl, rfl, rfl⟩
    · repeat walk_at "w"
      have h2 := Int.emod_nonneg c (b := 13) (by decide)
      have h3 := Int.emod_lt_of_pos c (b := 13) (by decide)
      exact ⟨rfl, _, h2, by omega, rfl, rfl, rfl⟩
  rintro l ce' m ⟨k, hk0, hk1, rfl, rfl, rfl⟩
  repeat walk_at "w"
  walk_at "comp"
  walk_at "comp"
  repeat walk_at "w"
  refine ICallV.range1 ok (by omega) (by omega) ?_
  refine ⟨_, fun i acc m => ∃ ns : List Int, acc = ns.map .int ∧ ns.length = i ∧ MLe mh m, by walk_at "celof", ⟨[], rfl, rfl, .rfl⟩, fun _ _ _ _ => trivial, rangeVal, fun F2 ok2 i y acc m hy hi => ?_, fun acc m A hi hA hA0 => ?_⟩
  · obtain ⟨ns, rfl, hn, l⟩ := hi
    have hy' := rangeYs_get.mp hy
    obtain ⟨hlt, hy'⟩ := hy'
    cases hy'
    repeat (first | walk_at "comp" | walk_at "w")
    have h2 := Int.emod_nonneg (0 + (i : Int) * 1) (b := 20) (by decide)
    refine cell_spec (n := n + 1) D ok2.room (hs.mono l) (by omega) ?_
    repeat walk_at "w"
    refine reading_spec (n := n) D ok2.room fun v m' l' => ?_
    refine ⟨⟨ns ++ [v], by simp, by simp [hn], l.trans l'⟩, by simp; omega⟩
  · obtain ⟨ns, rfl, hn, l⟩ := hi
    have hlen : ns.length ≤ 90 := by simp [rangeYs_len] at hn; omega
    exact h A _ ns (l.trans (.new hA)) (l.none hA) MH.set_same hlen

/-- the exact entries of a rising row -/
def exZ (rs : List Int) : List Ent := rs.zipIdx.map fun p => (p.1, (p.2 : Int), (p.2 : Int))
theorem exZ_len (rs : List Int) : (exZ rs).length = rs.length := by simp [exZ]
theorem exZ_get {rs : List Int} {i : Nat} {x : Int} (h : rs[i]? = some x) : (exZ rs)[i]? = some (x, (i : Int), (i : Int)) := by
  unfold exZ
  rw [List.getElem?_map, List.getElem?_zipIdx, h]
  simp

theorem exact_spec (D : D1 X a) (room : Room F.A (n + 1)) {r : Addr} {row : List Int} (hr : LstAt X mh r (row.map Val.int)) (hz : row.length ≤ 1000) {Q : VQ}
    (h : ∀ c m (rs : List Int), rs.Perm row → rs.Pairwise (· ≤ ·) → MLe mh m → mh c = none → EL m c (exZ rs) → Q (.ref c) lo ce m) : CallV X F (.ref a.exact) [.ref r] Q E lo ce mh := by
  have g1 := D.gsorted
  have g2 := D.grange
  have g3 := D.glen
  have hsz : 1000 ≤ sizeLine := by decide
  apply CallV.def (n := n) (ps := ["row"]) D.exact room rfl rfl rfl
  case hi => walk_at "init"
  intro F' ok cel
  repeat walk_at "w"
  refine CallV.sorted hr fun R rs hp hs hR hR0 => ?_
  have lR : MLe mh (mh.set R (.list (rs.map .int))) := .new hR
  have hlen := hp.length_eq
  have LR : LstAt X (mh.set R (.list (rs.map .int))) R (rs.map .int) := .own MH.set_same
  repeat walk_at "w"
  walk_at "comp"
  walk_at "comp"
  repeat walk_at "w"
  rw [List.length_map]
  refine ICallV.range1 ok (by omega) (by omega) ?_
  refine ⟨_, fun i acc m => ∃ us : List Addr, acc = us.map .ref ∧ TL m us ((exZ rs).take i) ∧ MLe (mh.set R (.list (rs.map .int))) m, by walk_at "celof", ⟨[], rfl, trivial, .rfl⟩, fun _ _ _ _ => trivial, rangeVal, fun F2 ok2 i y acc m hy hi => ?_, fun acc m A hi hA hA0 => ?_⟩
  · obtain ⟨us, rfl, hu, l⟩ := hi
    obtain ⟨hlt, hy'⟩ := rangeYs_get.mp hy
    cases hy'
    have hi' : i < rs.length := by omega
    have gi : rs[i]? = some rs[i] := List.getElem?_eq_getElem hi'
    repeat (first | walk_at "comp" | walk_at "w")
    refine SubV.lst (x := .int rs[i]) (LR.mono l) (by omega) (by rw [List.getElem?_map, show ((0 : Int) + (i : Int) * 1).toNat = i by omega, gi]; rfl) ?_
    repeat walk_at "w"
    refine ⟨by show 3 ≤ sizeLine; decide, fun t ht ht0 => ?_⟩
    have lt := MLe.new (o := .tup (entV (rs[i], (i : Int), (i : Int)))) ht
    have hul := hu.len
    rw [List.length_take, exZ_len] at hul
    have ei : (0 : Int) + (i : Int) * 1 = i := by omega
    rw [ei]
    refine ⟨⟨us ++ [t], by simp, ?_, l.trans lt⟩, by simp; omega⟩
    rw [List.take_add_one, exZ_get gi]
    exact (hu.mono lt).append (.one MH.set_same)
  · obtain ⟨us, rfl, hu, l⟩ := hi
    rw [rangeYs_len, show ((rs.length : Int)).toNat = rs.length by omega, List.take_of_length_le (by rw [exZ_len]; omega)] at hu
    have lA := MLe.new (o := .list (us.map .ref)) hA
    exact h A _ rs hp hs ((lR.trans l).trans lA) (lR.none (l.none hA)) ⟨us, MH.set_same, hu.mono lA⟩

/-- every second one -/
def odds {α : Type} : List α → List α
  | _ :: b :: r => b :: odds r
  | _ => []
theorem odds_len {α : Type} : ∀ l : List α, (odds l).length = l.length / 2
  | [] => by simp [odds]
  | [_] => by simp [odds]
  | _ :: _ :: r => by simp [odds, odds_len r]; omega
theorem odds_get {α : Type} : ∀ (l : List α) (i : Nat), (odds l)[i]? = l[2 * i + 1]?
  | [], i => by simp [odds]
  | [_], i => by simp [odds]
  | _ :: b :: r, 0 => rfl
  | _ :: b :: r, i + 1 => by
    show (b :: odds r)[i + 1]? = _
    rw [List.getElem?_cons_succ, odds_get r i, show 2 * (i + 1) + 1 = (2 * i + 1) + 1 + 1 by omega, List.getElem?_cons_succ, List.getElem?_cons_succ]
theorem odds_snoc {α : Type} (x : α) : ∀ l : List α, odds (l ++ [x]) = odds l ++ (if l.length % 2 = 1 then [x] else [])
  | [] => by simp [odds]
  | [_] => by simp [odds]
  | a :: b :: r => by
    show b :: odds (r ++ [x]) = b :: odds r ++ _
    rw [odds_snoc x r, List.cons_append]
    congr 2
    by_cases h : r.length % 2 = 1
    · rw [if_pos h, if_pos (by simp only [List.length_cons]; omega)]
    · rw [if_neg h, if_neg (by simp only [List.length_cons]; omega)]
theorem TL.odds {m : MH} : ∀ {ts es}, TL m ts es → TL m (odds ts) (odds es)
  | [], [], _ => trivial
  | [_], [_], _ => trivial
  | _ :: _ :: ts, _ :: _ :: es, ⟨_, a, r⟩ => ⟨a, TL.odds r⟩

theorem halved_spec (D : D1 X a) (room : Room F.A (n + 1)) {o : Addr} {ts : List Addr} {es : List Ent} (ho : LstAt X mh o (ts.map .ref)) (ht : TL mh ts es) (hz : es.length ≤ 1000) {Q : VQ}
    (h : ∀ c m, MLe mh m → mh c = none → EL m c (odds es) → Q (.ref c) lo ce m) : CallV X F (.ref a.halved) [.ref o] Q E lo ce mh := by
  have g2 := D.grange
  have g3 := D.glen
  have hsz : 1000 ≤ sizeLine := by decide
  have hlen := ht.len
  apply CallV.def (n := n) (ps := ["entries"]) D.halved room rfl rfl rfl
  case hi => walk_at "init"
  intro F' ok cel
  repeat walk_at "w"
  walk_at "comp"
  walk_at "comp"
  repeat walk_at "w"
  rw [List.length_map]
  refine ICallV.range3 (m := ts.length / 2) ok (by omega) (by omega) (by omega) (by omega) (by decide) (by decide) ?_ ?_
  · unfold Builtin.Range.rangeSize
    rw [if_pos (by decide)]
    split <;> omega
  refine ⟨_, fun i acc m => acc = ((odds ts).take i).map .ref ∧ mh = m, by walk_at "celof", ⟨rfl, rfl⟩, fun _ _ _ _ => trivial, rangeVal, ?_, ?_⟩
  · rintro F2 ok2 i y acc m hy ⟨rfl, rfl⟩
    obtain ⟨hlt, hy'⟩ := rangeYs_get.mp hy
    cases hy'
    have hi' : 2 * i + 1 < ts.length := by omega
    have gi : ts[2 * i + 1]? = some ts[2 * i + 1] := List.getElem?_eq_getElem hi'
    repeat (first | walk_at "comp" | walk_at "w")
    refine SubV.lst (x := .ref ts[2 * i + 1]) ho (by omega) (by rw [List.getElem?_map, show ((1 : Int) + (i : Int) * 2).toNat = 2 * i + 1 by omega, gi]; rfl) ?_
    refine ⟨⟨?_, rfl⟩, ?_⟩
    · rw [List.take_add_one, odds_get, gi]; simp
    · simp [odds_len]; omega
  · rintro acc m A ⟨rfl, rfl⟩ hA hA0
    rw [rangeYs_len, List.take_of_length_le (by rw [odds_len]; omega)]
    have lA := MLe.new (o := .list ((odds ts).map .ref)) hA
    exact h A _ lA hA ⟨odds ts, MH.set_same, ht.odds.mono lA⟩
end

theorem intD_eqv (ns : List Int) : PyData.eqvAll (ns.map PyData.int) (ns.map PyData.int) = true := by
  induction ns with
  | nil => rfl
  | cons e es ih => simp [PyData.eqvAll, PyData.eqv, ih]
theorem intD_lay (ns : List Int) : PyData.canLayAll0 (ns.map PyData.int) = true := by
  induction ns with
  | nil => rfl
  | cons e es ih => simp [PyData.canLayAll0, PyData.canLay0, ih]
theorem intD_depth (ns : List Int) : PyData.depthAll (ns.map PyData.int) ≤ 1 := by
  induction ns with
  | nil => simp [PyData.depthAll]
  | cons e es ih => simp [PyData.depthAll, PyData.depth]; omega
theorem intDat {m : MH} : ∀ ns : List Int, DatL m (ns.map Val.int) (ns.map PyData.int)
  | [] => .nil
  | _ :: ns => .cons (.int _) (intDat ns)

theorem ins_sorted {ds : List Int} (hs : ds.Pairwise (· ≤ ·)) {k : Nat} {x : Int} (hk : k ≤ ds.length) (h1 : ∀ i y, i < k → ds[i]? = some y → y ≤ x) (h2 : ∀ y, ds[k]? = some y → x ≤ y) : (ds.take k ++ x :: ds.drop k).Pairwise (· ≤ ·) := by
  have hsp : (ds.take k ++ ds.drop k).Pairwise (· ≤ ·) := by rw [List.take_append_drop]; exact hs
  obtain ⟨p1, p2, p3⟩ := List.pairwise_append.mp hsp
  have up : ∀ y ∈ ds.drop k, x ≤ y := fun y hy => by
    cases hd : ds.drop k with
    | nil => rw [hd] at hy; cases hy
    | cons z r =>
      have hz : ds[k]? = some z := by
        have : (ds.drop k)[0]? = some z := by rw [hd]; rfl
        rw [List.getElem?_drop] at this; simpa using this
      rw [hd] at hy p2
      rcases List.mem_cons.mp hy with rfl | hy
      · exact h2 _ hz
      · exact Int.le_trans (h2 _ hz) ((List.pairwise_cons.mp p2).1 y hy)
  have lowx : ∀ y ∈ ds.take k, y ≤ x := fun y hy => by
    obtain ⟨i, hi⟩ := List.mem_iff_getElem?.mp hy
    rw [List.getElem?_take] at hi
    split at hi
    · exact h1 i y ‹_› hi
    · cases hi
  refine List.pairwise_append.mpr ⟨p1, List.pairwise_cons.mpr ⟨up, p2⟩, fun y hy z hz => ?_⟩
  rcases List.mem_cons.mp hz with rfl | hz
  · exact lowx y hy
  · exact p3 y hy z hz
theorem ins_perm {ds : List Int} (k : Nat) (x : Int) : (ds.take k ++ x :: ds.drop k).Perm (ds ++ [x]) := by
  have h1 : (ds.take k ++ x :: ds.drop k).Perm (x :: (ds.take k ++ ds.drop k)) := List.perm_middle
  rw [List.take_append_drop] at h1
  exact h1.trans (List.perm_append_singleton x ds).symm
theorem sorted_one {as bs : List Int} (h : as.Perm bs) (ha : as.Pairwise (· ≤ ·)) (hb : bs.Pairwise (· ≤ ·)) : as = bs := h.eq_of_pairwise (fun a b _ _ h1 h2 => Int.le_antisymm h1 h2) ha hb

section
variable {X : Cx} {a : F1s} {F : Fx} {n : Nat} {E : EQ} {lo ce : Loc} {mh : MH}

theorem valInt {ns : List Int} {i : Nat} {y : Val} (h : ((ns.map Val.int).map Yd.val)[i]? = some (.val y)) : ∃ z, ns[i]? = some z ∧ y = .int z := by
  rw [List.getElem?_map, List.getElem?_map] at h
  cases e : ns[i]? with
  | none => rw [e] at h; cases h
  | some t => rw [e] at h; cases h; exact ⟨t, rfl, rfl⟩

theorem law_top (D : D1 X a) {A : Around} {law : Addr} (DL : FnIs X.H0 law (stmtAt P1 10)) (room : Room A (n + 4)) {s : Addr} {zs : List Int} (hs : LstAt X (fun _ => none) s (zs.map Val.int)) : TopV X A law [.ref s] (fun v => v = .bool true) := by
  obtain ⟨f1, f2, f3, f4, f5, f6, f7, f8, g1, g2, g3, g4, g5, g6, g7, g8, g9, g10, g11, g12, g13, g14, g15, g16, g17, g18, g19⟩ := id D
  have hsz : 1000 ≤ sizeLine := by decide
  apply TopV.def (n := n + 3) (ps := ["_law_script"]) DL room rfl rfl rfl
  case hi => walk_at "init"
  intro F' ok cel
  have r1 : Room F'.A (n + 1) := ok.room.le (by omega)
  have r2 : Room F'.A (n + 2) := ok.room.le (by omega)
  repeat walk_at "w"
  refine row_spec D ok.room hs fun R m1 row l1 hR eR nR => ?_
  have LR : LstAt X m1 R (row.map .int) := .own eR
  clear l1 hR hs
  repeat walk_at "w"
  refine ⟨by show 0 ≤ sizeLine; decide, fun Dd hD hD0 => ?_⟩
  repeat walk_at "w"
  have l0 : MLe m1 (m1.set Dd (.list [])) := .new hD
  refine WS.for ?_
  walk_at "comp"
  repeat walk_at "w"
  refine ⟨R, _, rfl, LR.mono l0, ?_⟩
  refine ⟨fun i l c m => ∃ (p q : Option Val) (ds : List Int), l = ([("_law_script", some (.ref s)), ("_law_row_here", some (.ref R)), ("_law_reading_here", p), ("_law_at", q), ("_law_handed", none), ("_law_found", none), ("_law_half", none), ("_law_seconds", none)] : Loc) ∧ c = ([("_law_due", some (.ref Dd))] : Loc) ∧ MLe m1 m ∧ m Dd = some (.list (ds.map .int)) ∧ ds.Perm (row.take i) ∧ ds.Pairwise (· ≤ ·),
    ⟨none, none, [], rfl, rfl, l0, MH.set_same, .nil, .nil⟩, ?_, ?_, ?_, ?_⟩
  · rintro i l c m ⟨p, q, ds, _, _, l, _⟩
    exact LR.mono l
  · intro y hy
    obtain ⟨v, rfl⟩ := valAll y hy
    exact trivial
  · rintro i y l c m hy ⟨p, q, ds, rfl, rfl, l, hF, hp, hsd⟩
    obtain ⟨v, rfl⟩ := valAll y (List.mem_of_getElem? hy)
    obtain ⟨z, gz, rfl⟩ := valInt hy
    have hi : i < row.length := (List.getElem?_eq_some_iff.mp gz).1
    have hdl : ds.length = i := by have := hp.length_eq; rw [List.length_take] at this; omega
    have LD : LstAt X m Dd (ds.map .int) := .own hF
    show AssV _ _ _ _ _ _ _ _ _
    repeat walk_at "w"
    refine WS.whileJ (fun kk l c m' => ∃ k : Nat, kk = ds.length - k ∧ l = ([("_law_script", some (.ref s)), ("_law_row_here", some (.ref R)), ("_law_reading_here", some (.int z)), ("_law_at", some (.int k)), ("_law_handed", none), ("_law_found", none), ("_law_half", none), ("_law_seconds", none)] : Loc) ∧ c = ([("_law_due", some (.ref Dd))] : Loc) ∧ m = m' ∧ k ≤ ds.length ∧ ∀ i y, i < k → ds[i]? = some y → y ≤ z)
      (fun l c m' => ∃ k : Nat, l = ([("_law_script", some (.ref s)), ("_law_row_here", some (.ref R)), ("_law_reading_here", some (.int z)), ("_law_at", some (.int k)), ("_law_handed", none), ("_law_found", none), ("_law_half", none), ("_law_seconds", none)] : Loc) ∧ c = ([("_law_due", some (.ref Dd))] : Loc) ∧ m = m' ∧ k ≤ ds.length ∧ (∀ i y, i < k → ds[i]? = some y → y ≤ z) ∧ ∀ y, ds[k]? = some y → z ≤ y) ds.length
      ⟨0, rfl, rfl, rfl, rfl, Nat.zero_le _, fun i y h => absurd h (Nat.not_lt_zero _)⟩ ?_ ?_
    · rintro kk l c m' ⟨k, rfl, rfl, rfl, rfl, hk, hlow⟩
      repeat walk_at "w"
      rw [List.length_map]
      with_reducible apply andD <;> intro h1
      · have h1' : k < ds.length := by omega
        have gk : ds[k]? = some ds[k] := List.getElem?_eq_getElem h1'
        repeat walk_at "w"
        refine SubV.lst (x := .int ds[k]) LD (by omega) (by rw [List.getElem?_map, Int.toNat_natCast, gk]; rfl) ?_
        repeat walk_at "w"
        with_reducible apply andD <;> intro h2
        · repeat walk_at "w"
          refine ⟨rfl, ds.length - (k + 1), by omega, k + 1, rfl, rfl, rfl, rfl, by omega, fun i y h3 h4 => ?_⟩
          by_cases e : i = k
          · subst e; rw [gk] at h4; cases h4; exact h2
          · exact hlow i y (by omega) h4
        · repeat walk_at "w"
          refine ⟨k, rfl, rfl, rfl, hk, hlow, fun y h3 => ?_⟩
          rw [gk] at h3; cases h3; omega
      · repeat walk_at "w"
        refine ⟨k, rfl, rfl, rfl, hk, hlow, fun y h3 => ?_⟩
        rw [List.getElem?_eq_none (by omega)] at h3; cases h3
    · rintro l c m' ⟨k, rfl, rfl, rfl, hk, hlow, hup⟩
      repeat walk_at "w"
      refine MethV.list PySem.F.slot_list_insert PySem.F.type_list_insert hF ?_
      repeat walk_at "w"
      refine CallV.insert hF (by omega) (by simp; omega) (by simp; omega) ?_
      repeat walk_at "w"
      refine ⟨_, _, ds.take k ++ z :: ds.drop k, rfl, rfl, l.own hD, ?_, ?_, ins_sorted hsd hk hlow hup⟩
      · rw [MH.set_same]; simp
      · rw [List.take_add_one, gz]
        exact (ins_perm k z).trans (hp.append_right _)
  rw [List.length_map, List.length_map]
  rintro l c m ⟨p, q, ds, rfl, rfl, l, hF, hp, hsd⟩
  rw [List.take_length] at hp
  have hdl := hp.length_eq
  have LD : LstAt X m Dd (ds.map .int) := .own hF
  replace LR := LR.mono l
  replace eR := l _ _ eR
  clear l l0 hD
  repeat walk_at "w"
  walk_at "comp"
  walk_at "comp"
  walk_at "comp"
  repeat walk_at "w"
  refine ICallV.enum ok LD ?_
  refine ⟨_, fun i acc m' => ∃ us : List Addr, acc = us.map .ref ∧ TL m' us ((exZ ds).take i) ∧ MLe m m', by walk_at "celof", ⟨[], rfl, trivial, .rfl⟩, ?_, ?_, ?_, ?_⟩
  · rintro i acc m' ⟨us, _, _, l⟩; exact LD.mono l
  · intro y hy
    obtain ⟨i, hi⟩ := List.mem_iff_getElem?.mp hy
    obtain ⟨x, _, rfl⟩ := enumYs_get.mp hi
    exact ⟨_, _, rfl⟩
  · rintro F2 ok2 i y z acc m' T hy ⟨us, rfl, hu, l⟩ hT hT0
    obtain ⟨x, hx, e⟩ := enumYs_get.mp hy
    cases e
    rw [List.getElem?_map] at hx
    obtain ⟨z, gz, rfl⟩ := Option.map_eq_some_iff.mp hx
    have hi := (List.getElem?_eq_some_iff.mp gz).1
    have lT : MLe m' (m'.set T (.tup [.int i, .int z])) := .new hT
    repeat (first | walk_at "comp" | walk_at "w")
    refine ⟨by show 3 ≤ sizeLine; decide, fun t ht ht0 => ?_⟩
    have lt := MLe.new (o := .tup (entV (z, (i : Int), (i : Int)))) ht
    have hul := hu.len
    rw [List.length_take, exZ_len] at hul
    refine ⟨⟨us ++ [t], by simp, ?_, l.trans (lT.trans lt)⟩, by simp; omega⟩
    rw [List.take_add_one, exZ_get gz]
    exact (hu.mono (lT.trans lt)).append (.one MH.set_same)
  rintro acc m2 G ⟨us, rfl, hu, l⟩ hG hG0
  rw [enumYs_len, List.length_map, List.take_of_length_le (by rw [exZ_len]; omega)] at hu
  have lG := MLe.new (o := .list (us.map .ref)) hG
  have eG : (m2.set G (.list (us.map .ref))) G = some (.list (us.map .ref)) := MH.set_same
  have tG := hu.mono lG
  have hul := hu.len
  rw [exZ_len] at hul
  replace LR := (LR.mono l).mono lG
  replace eR := lG _ _ (l _ _ eR)
  generalize m2.set G (.list (us.map .ref)) = m3 at *
  clear l lG LD hF hG hu
  repeat walk_at "w"
  refine CallV.listOf LR fun H hH _ => ?_
  have lH := MLe.new (o := .list (row.map Val.int)) hH
  have eH : (m3.set H (.list (row.map Val.int))) H = some (.list (row.map Val.int)) := MH.set_same
  replace eG := lH _ _ eG
  replace tG := tG.mono lH
  replace LR := LR.mono lH
  replace eR := lH _ _ eR
  generalize m3.set H (.list (row.map Val.int)) = m4 at *
  repeat walk_at "w"
  refine exact_spec D r1 (.own eH) (by omega) fun Fd m5 rs rp rsd l5 hFd eFd => ?_
  have hGF : G ≠ Fd := fun e => by rw [e, hFd] at eG; cases eG
  have hHF : H ≠ Fd := fun e => by rw [e, hFd] at eH; cases eH
  obtain rfl : rs = ds := sorted_one (rp.trans hp.symm) rsd hsd
  repeat walk_at "w"
  walk_at "i"
  refine like_spec (n := n) D r2 eFd ⟨us, l5 _ _ eG, tG.mono l5⟩ fun m6 l6 => ?_
  have l56 := l5.trans l6
  repeat walk_at "w"
  have d1 : DatV m6 (.ref H) (.list (row.map PyData.int)) := .list (l56 _ _ eH) (intDat row)
  have d2 : DatV m6 (.ref R) (.list (row.map PyData.int)) := .list (l56 _ _ eR) (intDat row)
  have hlay : PyData.canLay0 (.list (row.map PyData.int)) = true := by simp [PyData.canLay0, intD_lay]
  have hdep : PyData.depth (.list (row.map PyData.int)) ≤ 40 := by
    have := intD_depth row
    simp [PyData.depth]; omega
  refine CmpV.neDat ok d1 d2 hlay hlay hdep ?_
  have heqv : PyData.eqv (.list (row.map PyData.int)) (.list (row.map PyData.int)) = true := by simp [PyData.eqv, intD_eqv]
  rw [heqv]
  repeat walk_at "w"
  refine ⟨by show 3 ≤ sizeLine; decide, fun J hJ _ => ?_⟩
  have lJ := MLe.new (o := .list [.int 3, .int 1, .int 2]) hJ
  repeat walk_at "w"
  refine exact_spec (row := [3, 1, 2]) D r1 (.own MH.set_same) (by simp) fun J2 m7 rs' _ _ l7 _ _ => ?_
  have l57 := (l6.trans lJ).trans l7
  obtain ⟨ts, eF, tF⟩ := eFd.mono l57
  have l47 := l5.trans l57
  have hFn : m4 Fd = none := hFd
  replace eG := l47 _ _ eG
  replace tG := tG.mono l47
  replace eH := l47 _ _ eH
  have hdl' : rs.length ≤ 90 := by omega
  clear l56 d1 d2 l5 l6 lJ l7 l57 l47 eFd
  repeat walk_at "w"
  refine halved_spec D r1 (.own eF) tF (by rw [exZ_len]; omega) fun Hf m8 l8 hHf eHf => ?_
  replace eG := l8 _ _ eG
  replace tG := tG.mono l8
  replace eH := l8 _ _ eH
  have eF8 := l8 _ _ eF
  have tF8 := tF.mono l8
  have LG : LstAt X m8 G (us.map .ref) := .own eG
  repeat walk_at "w"
  walk_at "comp"
  walk_at "comp"
  repeat walk_at "w"
  rw [List.length_map]
  refine ICallV.range1 ok (by omega) (by omega) ?_
  refine ⟨_, fun i acc m' => acc = (odds (us.take i)).map .ref ∧ m8 = m', by walk_at "celof", ⟨by simp [odds], rfl⟩, fun _ _ _ _ => trivial, rangeVal, ?_, ?_⟩
  · rintro F2 ok2 i y acc m' hy ⟨rfl, rfl⟩
    obtain ⟨hlt, hy'⟩ := rangeYs_get.mp hy
    cases hy'
    have hi' : i < us.length := by omega
    have gi : us[i]? = some us[i] := List.getElem?_eq_getElem hi'
    have ei : (0 : Int) + (i : Int) * 1 = i := by omega
    rw [ei]
    repeat (first | walk_at "comp" | walk_at "w")
    have tl : (us.take i).length = i := by rw [List.length_take]; omega
    with_reducible apply andD <;> intro h1
    · repeat walk_at "w"
      refine SubV.lst (x := .ref us[i]) LG (by omega) (by rw [List.getElem?_map, Int.toNat_natCast, gi]; rfl) ?_
      refine ⟨⟨?_, rfl⟩, ?_⟩
      · rw [List.take_add_one, gi]
        show _ = (odds (us.take i ++ [us[i]])).map _
        rw [odds_snoc, tl, if_pos (by omega)]; simp
      · simp [odds_len]; omega
    · refine ⟨?_, rfl⟩
      rw [List.take_add_one, gi]
      show _ = (odds (us.take i ++ [us[i]])).map _
      rw [odds_snoc, tl, if_neg (by omega)]; simp
  rintro acc m' Sc ⟨rfl, rfl⟩ hSc hSc0
  rw [rangeYs_len, List.take_of_length_le (by omega)]
  have lS := MLe.new (o := .list ((odds us).map .ref)) hSc
  have eSc : EL (m8.set Sc (.list ((odds us).map .ref))) Sc (odds (exZ rs)) := ⟨odds us, MH.set_same, (tG.mono lS).odds⟩
  replace eHf := eHf.mono lS
  replace eG := lS _ _ eG
  replace tG := tG.mono lS
  replace eH := lS _ _ eH
  replace eF8 := lS _ _ eF8
  replace tF8 := tF8.mono lS
  have hHfF : Hf ≠ Fd := fun e => by rw [e, eF] at hHf; cases hHf
  have hScF : Sc ≠ Fd := fun e => by rw [e, l8 _ _ eF] at hSc; cases hSc
  generalize m8.set Sc (.list ((odds us).map .ref)) = m9 at *
  repeat walk_at "w"
  walk_at "i"
  refine like_spec (n := n) D r2 eHf eSc fun m10 l10 => ?_
  repeat walk_at "w"
  refine like_spec (n := n) D r2 (EL.mono ⟨ts, eF8, tF8⟩ l10) (EL.mono ⟨us, eG, tG⟩ l10) fun m11 l11 => ?_
  have l11' := l10.trans l11
  replace eHf := eHf.mono l11'
  replace eSc := eSc.mono l11'
  replace eG := l11' _ _ eG
  replace tG := tG.mono l11'
  replace eH := l11' _ _ eH
  replace eF8 := l11' _ _ eF8
  have hFl := tF8.len
  rw [exZ_len] at hFl
  repeat walk_at "w"
  refine MethV.list PySem.F.slot_list_append PySem.F.type_list_append eF8 ?_
  repeat walk_at "w"
  refine ⟨by show 3 ≤ sizeLine; decide, fun t ht ht0 => ?_⟩
  repeat walk_at "w"
  have lt := MLe.new (o := .tup [.int 0, .int 0, .int 0]) ht
  refine CallV.append (lt _ _ eF8) (by rw [List.length_map]; omega) ?_
  have ntup : ∀ xs, (m11.set t (.tup [.int 0, .int 0, .int 0])) Fd ≠ some (.tup xs) := fun xs => by rw [lt _ _ eF8]; simp
  have keep : ∀ {b : Addr} {es : List Ent} {o : MObj}, b ≠ Fd → EL m11 b es → EL ((m11.set t (.tup [.int 0, .int 0, .int 0])).set Fd o) b es := fun hb ⟨vs, h1, h2⟩ => ⟨vs, by rw [MH.set_ne hb]; exact lt _ _ h1, (h2.mono lt).set ntup⟩
  have kHf := keep (o := .list (ts.map .ref ++ [.ref t])) hHfF eHf
  have kSc := keep (o := .list (ts.map .ref ++ [.ref t])) hScF eSc
  have kG := keep (o := .list (ts.map .ref ++ [.ref t])) hGF ⟨us, eG, tG⟩
  have kH : ((m11.set t (.tup [.int 0, .int 0, .int 0])).set Fd (.list (ts.map .ref ++ [.ref t]))) H = some (.list (row.map Val.int)) := by rw [MH.set_ne hHF]; exact lt _ _ eH
  generalize (m11.set t (.tup [.int 0, .int 0, .int 0])).set Fd (.list (ts.map .ref ++ [.ref t])) = m12 at *
  repeat walk_at "w"
  refine like_spec (n := n) D r2 kHf kSc fun m13 l13 => ?_
  repeat walk_at "w"
  refine exact_spec D r1 (.own (l13 _ _ kH)) (by omega) fun Fe m14 rs2 rp2 rsd2 l14 hFe eFe => ?_
  obtain rfl : rs2 = rs := sorted_one (rp2.trans hp.symm) rsd2 hsd
  repeat walk_at "w"
  refine like_spec (n := n) D r2 eFe (kG.mono (l13.trans l14)) fun m15 l15 => ?_
  rfl
end

local macro_rules | `(tactic| walk_at "fn1") => `(tactic| exact FnAt.ofK (by assumption) (by assumption) (by rfl) rfl rfl (by rfl) (by decide +kernel) (by decide +kernel) (by decide +kernel) (bind1 fun _ => by rfl))
local macro_rules | `(tactic| walk_at "fn2") => `(tactic| exact FnAt.ofK (by assumption) (by assumption) (by rfl) rfl rfl (by rfl) (by decide +kernel) (by decide +kernel) (by decide +kernel) (bind2 fun _ _ => by rfl))
local macro_rules | `(tactic| walk_at "fn3") => `(tactic| exact FnAt.ofK (by assumption) (by assumption) (by rfl) rfl rfl (by rfl) (by decide +kernel) (by decide +kernel) (by decide +kernel) (bind3 fun _ _ _ => by rfl))
local macro_rules | `(tactic| walk_at "fn4") => `(tactic| exact FnAt.ofK (by assumption) (by assumption) (by rfl) rfl rfl (by rfl) (by decide +kernel) (by decide +kernel) (by decide +kernel) (bind4 fun _ _ _ _ => by rfl))
local macro_rules | `(tactic| walk_at "glb") => `(tactic| exact Glb.ref (by assumption) (by assumption) (by rfl) (by rfl))
local macro_rules | `(tactic| walk_at "bi") => `(tactic| exact Glb.bi (by assumption) (by assumption) (by rfl) (by decide +kernel) (by decide +kernel) (by rfl))
local macro_rules | `(tactic| walk_at "ty") => `(tactic| exact Glb.ty (by assumption) (by assumption) (by rfl) (by decide +kernel) (by decide +kernel) (by rfl))

def a1 : F1s := ⟨19, 24, 31, 38, 45, 52, 57, 62⟩
theorem d1 {prog : Program} {w : World} {P : Params} {H0 : Heap} {p : Program} {loose : List Str} {mg mb : Str → Option Value} (KX : (hd1.heap_39 P).In H0) (T : TopRead p loose mg mb H0) : D1 ⟨prog, w, H0⟩ a1 := by
  have hl := T.nolimit
  exact ⟨by walk_at "fn1", by walk_at "fn1", by walk_at "fn2", by walk_at "fn2", by walk_at "fn1", by walk_at "fn2", by walk_at "fn1", by walk_at "fn2",
    by walk_at "glb", by walk_at "glb", by walk_at "glb", by walk_at "glb", by walk_at "glb", by walk_at "glb", by walk_at "glb", by walk_at "glb",
    by walk_at "bi", by walk_at "bi", by walk_at "ty", by walk_at "ty", by walk_at "bi", by walk_at "ty", by walk_at "ty", by walk_at "ty", by walk_at "ty", by walk_at "ty", by walk_at "bi"⟩
theorem dl1 {P : Params} {H0 : Heap} (KX : (hd1.heap_39 P).In H0) (hl : H0.NoLimit) : FnIs H0 67 (stmtAt P1 10) := by walk_at "fn1"
theorem gl1 {P : Params} {H0 : Heap} {p : Program} {loose : List Str} {mg mb : Str → Option Value} (KX : (hd1.heap_39 P).In H0) (T : TopRead p loose mg mb H0) : nsIn (hd1.heap_39 P) mainGlobals "law" = some (some (.ref 67)) := by rfl

theorem main01 : PySem.Challenge.rw_uf050014_01.Holds := hd1 (by
  k_fill
  intro w s₀ s₁ mg mb G Y fa o pm cd doc dV kV ho hd hcd hD hmg hg args vals as hpre hlay hrd hwl hlo
  have KX := kIn_of Y
  refine Ground.open G ?_
  intro T B D TE TW
  have T' := topRead_of T
  have efa : fa = 67 := by
    have h1 := mg_of KX T'.g (gl1 KX T')
    have h2 : mg "law" = some (Value.ref fa) := hmg
    rw [h1] at h2
    cases h2
    rfl
  subst efa
  clear ho hd hcd hD hmg
  wrow_args hpre hlay hrd hwl hlo
  rename_i zs _ _ _ _ _ _ _ A vs _ hL _ _ _ hI _ hlen _
  have hs : LstAt ⟨PySem.Challenge.rw_uf050014_01.row.prog, w, s₁.heap⟩ (fun _ => none) A (zs.map Val.int) := .inr ⟨vs.toArray, hL, er_ints hI, by simp; have : (63 : Nat) ≤ sizeLine := (by decide); omega⟩
  have room : Room callerA 4 := ⟨rfl, by decide, by decide, rfl, ⟨_, rfl⟩⟩
  have W := law_top (n := 0) (d1 KX T') (dl1 KX T'.nolimit) room hs
  refine wpAny_mono (W s₁ [.ref A] rfl rfl) (fun v s' p => ?_) fun _ _ f => f.elim
  obtain ⟨h', tk, rfl, hk, hv⟩ := p
  obtain rfl := er_bool hv
  refine GoodW.toG ⟨.inl ⟨_, _, _, rfl, ?_, .bool _, ?_, ?_⟩, hk, rfl, hg⟩
  · intro cls; rfl
  · wrow_post
  · exact fun _ => ⟨List.nodup_nil, fun _ h => nomatch h⟩)
end Mine

theorem PySem.Challenge.cw_uf050014_01_holds : PySem.Challenge.rw_uf050014_01.Holds :=
  Mine.main01
