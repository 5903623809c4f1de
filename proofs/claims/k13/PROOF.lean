import PyProof.Rows.All
import Wide.All
import OpenK.AllK
import Wide.FinOn
import HandS.ForMost
import HandS.Exc
import HandS.ExcOwn
import HandS.TryOnly
import HandS.Lambda
import HandS.AnyAll
import HandS.TupAny
import HandS.TupMul
import HandS.Style
import HandS.FStr
import HandS.Wide
import HandS.Codes
import HandS.Deep
import HandS.TupLe
import HandS.Flow
import HandS.More
import HandS.RaiseFrom
import HandS.Zip
import HandS.Rev
import HandS.Defaults
import HandS.HeadHook4
import HandS.GenList
import PyProof.TupleOfGen
import HandS.Iter
import KE.GoesMore
import KE.KTupSum
import HandS.HeadWalk
import HandS.NestedK
import HandS.StrMore
import HandS.SuiteRaise
import HandS.ExcCtx
import PyProof.SumAny
import PyProof.Rows.SumAny
import HandS.ExcValue
import KE.GoesZip
import PySem.Challenge.RW_zipstack_k13_numbers_that_tell_if_a_text
import HandS.Head2
set_option Elab.async false
set_option linter.all false
set_option maxRecDepth 100000
set_option maxHeartbeats 4000000
/-! Z1: values as data, worlds, what they say of the abstract heap -/
namespace Z
open PySem PySem.Spec PyProof.Rows L2

/-- a dict's key -/
inductive K1 where
  | i (n : Int)
  | s (l : List Nat)
  deriving DecidableEq, Inhabited
def K1.key : K1 → Key
  | .i n => .inl n
  | .s l => .inr ⟨l.toArray⟩

/-- a value as data; ref: a box of the heap; lam: a lambda of the running def by its number; scr: the script -/
inductive D where
  | non | bl (b : Bool) | int (i : Int) | str (s : List Nat)
  | tup (xs : List D) | lst (xs : List D) | dic (kvs : List (K1 × D)) | dit (kvs : List (List K1 × D))
  | ref (n : Nat) | lam (i : Nat) | scr (xs : List D)
  deriving Inhabited

inductive Cell where
  | box (d : D)
  | ins (c : Nat) (fs : List (List Nat × D))
  deriving Inhabited
abbrev Hc := List Cell
/-- a slot: nothing, a value, a list or dict that nothing else holds -/
inductive Sl where
  | u | v (d : D) | o (d : D)
  deriving Inhabited
abbrev Rho := List Sl

/-- what the proof is about -/
structure Gl where
  K : PySem.W.Frag
  ca : Nat → Addr
  tl : List (Addr × Str)
  lam : Nat → Option (Arguments × Expr × Scope × Str)
structure Wd where
  m : Nat → Option Addr
  fz : Addr → Prop
  lam : Nat → Option Addr

def KTup (K : PySem.W.Frag) (a : Addr) (vs : List V) : Prop := ∃ (o : Obj) (its : Array Value) (n : Nat), K.lookup a = some o ∧ o.cls = .type "tuple" ∧ o.data = .seq its n ∧ its.size ≤ sizeLine ∧ Vals vs its.toList
def KLst (K : PySem.W.Frag) (a : Addr) (vs : List V) : Prop := ∃ (o : Obj) (its : Array Value) (n : Nat), K.lookup a = some o ∧ o.cls = .type "list" ∧ o.dict = none ∧ o.data = .seq its n ∧ its.size ≤ sizeLine ∧ Vals vs its.toList
def TupAt (G : Gl) (W : Wd) (H : Hp) (a : Addr) (vs : List V) : Prop := (W.fz a ∧ Rd H a (.tup vs)) ∨ KTup G.K a vs
def LstAt (G : Gl) (W : Wd) (H : Hp) (a : Addr) (vs : List V) : Prop := W.fz a ∧ H a = some (.lst vs)
def ScrAt (G : Gl) (W : Wd) (H : Hp) (a : Addr) (vs : List V) : Prop := (W.fz a ∧ Rd H a (.lst vs)) ∨ KLst G.K a vs

/-- a function object, known as it is -/
def LamO (f : Addr) (o : Obj) : HO := .ext fun h => h.get? f = some o
/-- f is the closed lambda number i -/
def LamAt (G : Gl) (H : Hp) (i : Nat) (f : Addr) : Prop := ∃ (params : Arguments) (body : Expr) (scope : Scope) (q : Str) (v1 v2 : Value) (c : Addr), G.lam i = some (params, body, scope, q) ∧
  H f = some (LamO f (PySem.W.kla_obj "<lambda>" q params body scope [] v1 c v2)) ∧ H c = some (LamX.CodeO c q)
/-- signs that there are -/
def okS (s : List Nat) : Prop := s.all (fun c => decide (c < 0x110000)) = true
mutual
def Rep (G : Gl) (W : Wd) (H : Hp) : D → V → Prop
  | .non, v => v = .non
  | .bl b, v => v = .bl b
  | .int i, v => v = .int i
  | .str s, v => v = .str ⟨s.toArray⟩ ∧ okS s
  | .tup ds, v => ∃ a vs, v = .ref a ∧ TupAt G W H a vs ∧ Reps G W H ds vs
  | .lst ds, v => ∃ a vs, v = .ref a ∧ LstAt G W H a vs ∧ Reps G W H ds vs
  | .dic kvs, v => ∃ a vvs, v = .ref a ∧ (W.fz a ∧ H a = some (.dK vvs)) ∧ RepK G W H kvs vvs
  | .dit kvs, v => ∃ a vvs, v = .ref a ∧ (W.fz a ∧ H a = some (.dT vvs)) ∧ RepT G W H kvs vvs
  | .ref n, v => ∃ a, v = .ref a ∧ W.m n = some a
  | .lam i, v => ∃ a, v = .ref a ∧ LamAt G H i a
  | .scr ds, v => ∃ a vs, v = .ref a ∧ ScrAt G W H a vs ∧ Reps G W H ds vs
def Reps (G : Gl) (W : Wd) (H : Hp) : List D → List V → Prop
  | [], vs => vs = []
  | d :: ds, vs => ∃ v r, vs = v :: r ∧ Rep G W H d v ∧ Reps G W H ds r
def RepK (G : Gl) (W : Wd) (H : Hp) : List (K1 × D) → List (Key × V) → Prop
  | [], vs => vs = []
  | (k, d) :: ds, vs => ∃ v r, vs = (k.key, v) :: r ∧ Rep G W H d v ∧ RepK G W H ds r
def RepT (G : Gl) (W : Wd) (H : Hp) : List (List K1 × D) → List (List Key × V) → Prop
  | [], vs => vs = []
  | (k, d) :: ds, vs => ∃ v r, vs = (k.map K1.key, v) :: r ∧ Rep G W H d v ∧ RepT G W H ds r
end
def RepF (G : Gl) (W : Wd) (H : Hp) : List (List Nat × D) → List (Str × V) → Prop
  | [], vs => vs = []
  | (k, d) :: ds, vs => ∃ v r, vs = (⟨k.toArray⟩, v) :: r ∧ Rep G W H d v ∧ RepF G W H ds r

def noTbl (o : HO) : Prop := ∀ ps, o ≠ .tbl ps
/-- what data lean on -/
structure Lk (W : Wd) (H : Hp) (W' : Wd) (H' : Hp) : Prop where
  m : ∀ n a, W.m n = some a → W'.m n = some a
  f : ∀ a, W.fz a → W'.fz a
  l : ∀ a φ, H a = some (.ext φ) → H' a = some (.ext φ)
  fk : ∀ a o, W.fz a → H a = some o → noTbl o → H' a = some o
/-- from one state to a later one, seen from whoever holds the first -/
structure Ext (W : Wd) (H : Hp) (W' : Wd) (H' : Hp) : Prop extends Lk W H W' H' where
  k : ∀ a o, H a = some o → (∀ n, W.m n ≠ some a) → noTbl o → H' a = some o
  t : ∀ a, H a ≠ none → H' a ≠ none
  nf : ∀ a, W'.fz a → W.fz a ∨ H a = none
  nm : ∀ n a, W'.m n = some a → W.m n = some a ∨ H a = none
theorem Ext.refl (W : Wd) (H : Hp) : Ext W H W H := ⟨⟨fun _ _ h => h, fun _ h => h, fun _ _ h => h, fun _ _ _ e _ => e⟩, fun _ _ h _ _ => h, fun _ h => h, fun _ h => .inl h, fun _ _ h => .inl h⟩
theorem Ext.trans {W W1 W2 : Wd} {H H1 H2 : Hp} (a : Ext W H W1 H1) (b : Ext W1 H1 W2 H2) : Ext W H W2 H2 where
  m := fun n x h => b.m n x (a.m n x h)
  f := fun x h => b.f x (a.f x h)
  l := fun i x h => b.l i x (a.l i x h)
  k := fun x o h hn ht => b.k x o (a.k x o h hn ht) (fun n q => by
    rcases a.nm n x q with z | z
    · exact hn n z
    · rw [h] at z; cases z) ht
  fk := fun x o h e n => b.fk x o (a.f x h) (a.fk x o h e n) n
  t := fun x h => b.t x (a.t x h)
  nf := fun x h => by
    rcases b.nf x h with z | z
    · exact a.nf x z
    · exact .inr (Classical.byContradiction fun q => a.t x q z)
  nm := fun n x h => by
    rcases b.nm n x h with z | z
    · exact a.nm n x z
    · exact .inr (Classical.byContradiction fun q => a.t x q z)

section
variable {G : Gl} {W W' : Wd} {H H' : Hp}
theorem Rd.fz {a : Addr} {u : HO} (e : ∀ o, H a = some o → noTbl o → H' a = some o) (n : noTbl u) (h : Rd H a u) : Rd H' a u := by
  rcases h with h | ⟨o, h⟩
  · exact .inl (e _ h n)
  · exact .inr ⟨o, e _ h fun ps z => by cases z⟩
theorem TupAt.ext (x : Lk W H W' H') {a : Addr} {vs : List V} (h : TupAt G W H a vs) : TupAt G W' H' a vs := by
  rcases h with ⟨f, h⟩ | h
  · exact .inl ⟨x.f a f, Rd.fz (fun o => x.fk a o f) (fun ps z => by cases z) h⟩
  · exact .inr h
theorem LstAt.ext (x : Lk W H W' H') {a : Addr} {vs : List V} (h : LstAt G W H a vs) : LstAt G W' H' a vs := ⟨x.f a h.1, x.fk a _ h.1 h.2 fun ps z => by cases z⟩
theorem ScrAt.ext (x : Lk W H W' H') {a : Addr} {vs : List V} (h : ScrAt G W H a vs) : ScrAt G W' H' a vs := by
  rcases h with ⟨f, h⟩ | h
  · exact .inl ⟨x.f a f, Rd.fz (fun o => x.fk a o f) (fun ps z => by cases z) h⟩
  · exact .inr h
mutual
theorem Rep.ext (x : Lk W H W' H') : ∀ {d : D} {v : V}, Rep G W H d v → Rep G W' H' d v
  | .non, _, h => h
  | .bl _, _, h => h
  | .int _, _, h => h
  | .str _, _, h => h
  | .tup ds, _, ⟨a, vs, e, t, r⟩ => ⟨a, vs, e, t.ext x, Reps.ext x r⟩
  | .lst ds, _, ⟨a, vs, e, t, r⟩ => ⟨a, vs, e, t.ext x, Reps.ext x r⟩
  | .dic ds, _, ⟨a, vs, e, ⟨f, t⟩, r⟩ => ⟨a, vs, e, ⟨x.f a f, x.fk a _ f t fun ps z => by cases z⟩, RepK.ext x r⟩
  | .dit ds, _, ⟨a, vs, e, ⟨f, t⟩, r⟩ => ⟨a, vs, e, ⟨x.f a f, x.fk a _ f t fun ps z => by cases z⟩, RepT.ext x r⟩
  | .ref n, _, ⟨a, e, h⟩ => ⟨a, e, x.m n a h⟩
  | .lam n, _, ⟨a, e, p, b, sc, q, v1, v2, c, h1, h2, h3⟩ => ⟨a, e, p, b, sc, q, v1, v2, c, h1, x.l _ _ h2, x.l _ _ h3⟩
  | .scr ds, _, ⟨a, vs, e, t, r⟩ => ⟨a, vs, e, t.ext x, Reps.ext x r⟩
theorem Reps.ext (x : Lk W H W' H') : ∀ {ds : List D} {vs : List V}, Reps G W H ds vs → Reps G W' H' ds vs
  | [], _, h => h
  | d :: ds, _, ⟨v, r, e, h, t⟩ => ⟨v, r, e, Rep.ext x h, Reps.ext x t⟩
theorem RepK.ext (x : Lk W H W' H') : ∀ {ds : List (K1 × D)} {vs : List (Key × V)}, RepK G W H ds vs → RepK G W' H' ds vs
  | [], _, h => h
  | (k, d) :: ds, _, ⟨v, r, e, h, t⟩ => ⟨v, r, e, Rep.ext x h, RepK.ext x t⟩
theorem RepT.ext (x : Lk W H W' H') : ∀ {ds : List (List K1 × D)} {vs : List (List Key × V)}, RepT G W H ds vs → RepT G W' H' ds vs
  | [], _, h => h
  | (k, d) :: ds, _, ⟨v, r, e, h, t⟩ => ⟨v, r, e, Rep.ext x h, RepT.ext x t⟩
end
theorem RepF.ext (x : Lk W H W' H') : ∀ {ds : List (List Nat × D)} {vs : List (Str × V)}, RepF G W H ds vs → RepF G W' H' ds vs
  | [], _, h => h
  | (k, d) :: ds, _, ⟨v, r, e, h, t⟩ => ⟨v, r, e, Rep.ext x h, RepF.ext x t⟩
end
end Z

/-! Z2: the state, what is made and written, the frame -/
namespace Z
open PySem PySem.Spec PyProof.Rows L2

/-- lambdas stay in their def -/
def Wd.nl (W : Wd) : Wd := { W with lam := fun _ => none }
def CellRep (G : Gl) (W : Wd) (H : Hp) (a : Addr) : Cell → Prop
  | .box (.lst ds) => ∃ vs, H a = some (.lst vs) ∧ Reps G W H ds vs
  | .box (.dic ds) => ∃ vs, H a = some (.dK vs) ∧ RepK G W H ds vs
  | .box (.dit ds) => ∃ vs, H a = some (.dT vs) ∧ RepT G W H ds vs
  | .box _ => False
  | .ins c fs => ∃ dx vfs, H a = some (.ins (G.ca c) dx vfs) ∧ RepF G W H fs vfs
structure St0 (G : Gl) (W : Wd) (H : Hp) (hp : Hc) : Prop where
  cells : ∀ n c, hp[n]? = some c → ∃ a, W.m n = some a ∧ CellRep G W.nl H a c
  dom : ∀ n a, W.m n = some a → n < hp.length
  inj : ∀ n k a, W.m n = some a → W.m k = some a → n = k
  nfz : ∀ n a, W.m n = some a → ¬ W.fz a
  ft : ∀ a, W.fz a → H a ≠ none
  tl : LamX.Tabs G.tl H
  tb : ∀ a ps, H a = some (.tbl ps) → True

section
variable {G : Gl} {W W' : Wd} {H H' : Hp} {hp : Hc}
theorem Lk.nl (x : Lk W H W' H') : Lk W.nl H W'.nl H' := ⟨x.m, x.f, x.l, x.fk⟩
theorem CellRep.ext (x : Lk W H W' H') {a : Addr} {c : Cell} (e : H' a = H a) (h : CellRep G W H a c) : CellRep G W' H' a c := by
  cases c with
  | box d =>
    cases d with
    | lst ds => obtain ⟨vs, q, r⟩ := h; exact ⟨vs, e.trans q, r.ext x⟩
    | dic ds => obtain ⟨vs, q, r⟩ := h; exact ⟨vs, e.trans q, r.ext x⟩
    | dit ds => obtain ⟨vs, q, r⟩ := h; exact ⟨vs, e.trans q, r.ext x⟩
    | _ => exact h.elim
  | ins c fs => obtain ⟨dx, vfs, q, r⟩ := h; exact ⟨dx, vfs, e.trans q, r.ext x⟩
theorem CellRep.noExt {a : Addr} {c : Cell} (h : CellRep G W H a c) {φ : Heap → Prop} : H a ≠ some (.ext φ) := fun z => by
  cases c with
  | box d =>
    cases d with
    | lst ds => obtain ⟨vs, q, _⟩ := h; rw [q] at z; cases z
    | dic ds => obtain ⟨vs, q, _⟩ := h; rw [q] at z; cases z
    | dit ds => obtain ⟨vs, q, _⟩ := h; rw [q] at z; cases z
    | _ => exact h.elim
  | ins c fs => obtain ⟨dx, vfs, q, _⟩ := h; rw [q] at z; cases z
/-- what a world says of tracked places -/
theorem St0.mt (s : St0 G W H hp) {n : Nat} {a : Addr} (h : W.m n = some a) : H a ≠ none := by
  have hl := s.dom n a h
  obtain ⟨a', e, c⟩ := s.cells n _ (List.getElem?_eq_getElem hl)
  rw [h] at e
  cases e
  intro q
  cases hc : hp[n] with
  | box d =>
    rw [hc] at c
    cases d with
    | lst ds => obtain ⟨vs, z, _⟩ := c; rw [q] at z; cases z
    | dic ds => obtain ⟨vs, z, _⟩ := c; rw [q] at z; cases z
    | dit ds => obtain ⟨vs, z, _⟩ := c; rw [q] at z; cases z
    | _ => exact c.elim
  | ins c' fs =>
    rw [hc] at c
    obtain ⟨dx, vfs, z, _⟩ := c; rw [q] at z; cases z
theorem tabs_new {tl : List (Addr × Str)} (h : LamX.Tabs tl H) {p : Addr} {o : HO} (e : H p = none) : LamX.Tabs tl (upd H p o) :=
  h.ext fun b u q => by rw [upd_ne (ne_of_none q e)]; exact q
theorem tabG_new {P : Addr} (h : GxR.TabG H P) {p : Addr} {o : HO} (e : H p = none) : GxR.TabG (upd H p o) P := by
  obtain ⟨ps, q, t⟩ := h
  exact ⟨ps, by rw [upd_ne (ne_of_none q e)]; exact q, t⟩
/-- a place that holds something other than a table is written over by such -/
theorem tabs_set {tl : List (Addr × Str)} (h : LamX.Tabs tl H) {p : Addr} {o o' : HO} (e : H p = some o) (n : noTbl o) (nc : ∀ q, o ≠ LamX.CodeO p q) : LamX.Tabs tl (upd H p o') := fun t ht => by
  obtain ⟨ps, h1, h2, h3⟩ := h t ht
  refine ⟨ps, ?_, h2, fun pos cv hc => ?_⟩
  · rw [upd_ne (fun z => n ps (by rw [z] at h1; rw [e] at h1; exact Option.some.inj h1))]
    exact h1
  · obtain ⟨c, e1, e2⟩ := h3 pos cv hc
    refine ⟨c, e1, ?_⟩
    rw [upd_ne (fun z => by rw [z, e] at e2; exact nc _ (Option.some.inj e2))]
    exact e2
theorem tabG_set {P : Addr} (h : GxR.TabG H P) {p : Addr} {o o' : HO} (e : H p = some o) (n : noTbl o) : GxR.TabG (upd H p o') P := by
  obtain ⟨ps, q, t⟩ := h
  exact ⟨ps, by rw [upd_ne (fun z => n ps (by rw [z] at q; rw [e] at q; exact Option.some.inj q))]; exact q, t⟩

/-! ### a thing is made that is never written -/
def Wd.fzA (W : Wd) (p : Addr) : Wd := { W with fz := fun a => W.fz a ∨ a = p }
theorem ext_fz {p : Addr} {o : HO} (s : St0 G W H hp) (e : H p = none) : Ext W H (W.fzA p) (upd H p o) where
  m := fun _ _ h => h
  f := fun _ h => .inl h
  l := fun a φ h => by rw [upd_ne (ne_of_none h e)]; exact h
  k := fun a u h _ _ => by rw [upd_ne (ne_of_none h e)]; exact h
  fk := fun a o h q _ => by rw [upd_ne (fun z => s.ft a h (by rw [z]; exact e))]; exact q
  t := fun a h => by
    unfold upd
    split
    · simp
    · exact h
  nf := fun a h => h.elim .inl fun z => .inr (by rw [z]; exact e)
  nm := fun _ _ h => .inl h
theorem st_fz {p : Addr} {o : HO} (s : St0 G W H hp) (e : H p = none) (no : noTbl o := by intro ps z; cases z) : St0 G (W.fzA p) (upd H p o) hp where
  cells := fun n c h => by
    obtain ⟨a, ha, r⟩ := s.cells n c h
    exact ⟨a, ha, r.ext (W' := (W.fzA p).nl) (ext_fz s e).toLk.nl (upd_ne fun z => s.mt ha (by rw [z]; exact e))⟩
  dom := s.dom
  inj := s.inj
  nfz := fun n a h z => z.elim (s.nfz n a h) fun q => s.mt h (by rw [q]; exact e)
  ft := fun a h => by
    unfold upd
    split
    · simp
    · exact h.elim (s.ft a) fun z => by contradiction
  tl := tabs_new s.tl e
  tb := fun a ps h => by
    unfold upd at h
    split at h
    · cases h; exact absurd rfl (no ps)
    · exact s.tb a ps h
theorem fz_tup {p : Addr} {vs : List V} : TupAt G (W.fzA p) (upd H p (.tup vs)) p vs := .inl ⟨.inr rfl, .inl upd_same⟩
theorem fz_lst {p : Addr} {vs : List V} : LstAt G (W.fzA p) (upd H p (.lst vs)) p vs := ⟨.inr rfl, upd_same⟩
/-! ### a thing is made that a slot will own: nothing is said of it -/
theorem ext_own {p : Addr} {o : HO} (s : St0 G W H hp) (e : H p = none) : Ext W H W (upd H p o) where
  m := fun _ _ h => h
  f := fun _ h => h
  l := fun a φ h => by rw [upd_ne (ne_of_none h e)]; exact h
  k := fun a u h _ _ => by rw [upd_ne (ne_of_none h e)]; exact h
  fk := fun a o h q _ => by rw [upd_ne (fun z => s.ft a h (by rw [z]; exact e))]; exact q
  t := fun a h => by
    unfold upd
    split
    · simp
    · exact h
  nf := fun a h => .inl h
  nm := fun _ _ h => .inl h
theorem st_own {p : Addr} {o : HO} (s : St0 G W H hp) (e : H p = none) (no : noTbl o := by intro ps z; cases z) : St0 G W (upd H p o) hp where
  cells := fun n c h => by
    obtain ⟨a, ha, r⟩ := s.cells n c h
    exact ⟨a, ha, r.ext (W' := W.nl) (ext_own s e).toLk.nl (upd_ne fun z => s.mt ha (by rw [z]; exact e))⟩
  dom := s.dom
  inj := s.inj
  nfz := s.nfz
  ft := fun a h => by
    unfold upd
    split
    · simp
    · exact s.ft a h
  tl := tabs_new s.tl e
  tb := fun a ps h => by
    unfold upd at h
    split at h
    · cases h; exact absurd rfl (no ps)
    · exact s.tb a ps h
/-! ### a place that a slot owns is written -/
theorem lk_out {p : Addr} {o' : HO} (hf : ¬ W.fz p) (he : ∀ φ, H p ≠ some (.ext φ)) : Lk W H W (upd H p o') := ⟨fun _ _ h => h, fun _ h => h, fun a φ h => by rw [upd_ne fun z => he φ (by rw [← z]; exact h)]; exact h, fun a o h q _ => by rw [upd_ne fun z => hf (by rw [← z]; exact h)]; exact q⟩
theorem st_out {p : Addr} {o o' : HO} (s : St0 G W H hp) (e : H p = some o) (hf : ¬ W.fz p) (hm : ∀ n, W.m n ≠ some p) (n : noTbl o) (nc : ∀ q, o ≠ LamX.CodeO p q) (hx : ∀ φ, o ≠ .ext φ) (no : noTbl o' := by intro ps z; cases z) : St0 G W (upd H p o') hp where
  cells := fun k c h => by
    obtain ⟨a, ha, r⟩ := s.cells k c h
    exact ⟨a, ha, r.ext (W' := W.nl) (lk_out (W := W.nl) hf fun φ z => by rw [e] at z; exact hx φ (Option.some.inj z)) (upd_ne fun z => hm k (by rw [← z]; exact ha))⟩
  dom := s.dom
  inj := s.inj
  nfz := s.nfz
  ft := fun a h => by
    unfold upd
    split
    · simp
    · exact s.ft a h
  tl := tabs_set s.tl e n nc
  tb := fun a ps h => by
    unfold upd at h
    split at h
    · cases h; exact absurd rfl (no ps)
    · exact s.tb a ps h
/-! ### a box is made, a box is written -/
def Wd.box (W : Wd) (n : Nat) (p : Addr) : Wd := { W with m := fun k => if k = n then some p else W.m k }
theorem ext_box {p : Addr} {o : HO} (s : St0 G W H hp) (e : H p = none) : Ext W H (W.box hp.length p) (upd H p o) where
  m := fun n a h => by
    show (if n = hp.length then some p else W.m n) = some a
    rw [if_neg (Nat.ne_of_lt (s.dom n a h))]
    exact h
  f := fun _ h => h
  l := fun a φ h => by rw [upd_ne (ne_of_none h e)]; exact h
  fk := fun a o h q _ => by rw [upd_ne (fun z => s.ft a h (by rw [z]; exact e))]; exact q
  k := fun a u h _ _ => by rw [upd_ne (ne_of_none h e)]; exact h
  t := fun a h => by
    unfold upd
    split
    · simp
    · exact h
  nf := fun a h => .inl h
  nm := fun n a h => by
    have h : (if n = hp.length then some p else W.m n) = some a := h
    split at h
    · cases h; exact .inr e
    · exact .inl h
theorem st_box {p : Addr} {o : HO} {c : Cell} (s : St0 G W H hp) (e : H p = none) (hc : CellRep G (W.box hp.length p).nl (upd H p o) p c) (no : noTbl o := by intro ps z; cases z) : St0 G (W.box hp.length p) (upd H p o) (hp ++ [c]) where
  cells := fun n c' h => by
    by_cases hn : n < hp.length
    · rw [List.getElem?_append_left hn] at h
      obtain ⟨a, ha, r⟩ := s.cells n c' h
      refine ⟨a, (ext_box (o := o) s e).m n a ha, r.ext (ext_box (o := o) s e).toLk.nl (upd_ne fun z => s.mt ha (by rw [z]; exact e))⟩
    · rw [List.getElem?_append_right (Nat.le_of_not_lt hn)] at h
      have hz : n - hp.length = 0 := by
        have h1 := (List.getElem?_eq_some_iff.mp h).1
        simp at h1
        omega
      rw [hz] at h
      cases h
      have en : n = hp.length := by omega
      subst en
      exact ⟨p, by show (if hp.length = hp.length then some p else W.m hp.length) = some p; rw [if_pos rfl], hc⟩
  dom := fun n a h => by
    have h : (if n = hp.length then some p else W.m n) = some a := h
    rw [List.length_append, List.length_singleton]
    split at h
    · omega
    · have := s.dom n a h
      omega
  inj := fun n k a h1 h2 => by
    have h1 : (if n = hp.length then some p else W.m n) = some a := h1
    have h2 : (if k = hp.length then some p else W.m k) = some a := h2
    split at h1
    · split at h2
      · omega
      · cases h1; exact absurd e (s.mt h2)
    · split at h2
      · cases h2; exact absurd e (s.mt h1)
      · exact s.inj n k a h1 h2
  nfz := fun n a h => by
    have h : (if n = hp.length then some p else W.m n) = some a := h
    split at h
    · cases h; exact fun z => s.ft p z e
    · exact s.nfz n a h
  ft := fun a h => by
    unfold upd
    split
    · simp
    · exact s.ft a h
  tl := tabs_new s.tl e
  tb := fun a ps h => by
    unfold upd at h
    split at h
    · cases h; exact absurd rfl (no ps)
    · exact s.tb a ps h
theorem ext_set {n : Nat} {p : Addr} {o' : HO} (s : St0 G W H hp) (e : W.m n = some p) : Ext W H W (upd H p o') where
  m := fun _ _ h => h
  f := fun _ h => h
  l := fun a φ h => by
    rw [upd_ne fun z => ?_]
    · exact h
    · rw [z] at h
      obtain ⟨a', e', c⟩ := s.cells n _ (List.getElem?_eq_getElem (s.dom n p e))
      rw [e] at e'
      cases e'
      exact c.noExt h
  fk := fun a o h q _ => by rw [upd_ne fun z => s.nfz n p e (by rw [← z]; exact h)]; exact q
  k := fun a u h hn _ => by rw [upd_ne fun z => hn n (by rw [z]; exact e)]; exact h
  t := fun a h => by
    unfold upd
    split
    · simp
    · exact h
  nf := fun a h => .inl h
  nm := fun _ _ h => .inl h
theorem st_set {n : Nat} {p : Addr} {o o' : HO} {c : Cell} (s : St0 G W H hp) (e : W.m n = some p) (ho : H p = some o) (nt : noTbl o) (nc : ∀ q, o ≠ LamX.CodeO p q) (hc : CellRep G W.nl (upd H p o') p c) (no : noTbl o' := by intro ps z; cases z) : St0 G W (upd H p o') (hp.set n c) where
  cells := fun k c' h => by
    have x := (ext_set (o' := o') s e).toLk.nl
    by_cases hk : k = n
    · subst hk
      have h1 := (List.getElem?_eq_some_iff.mp h).1
      rw [List.length_set] at h1
      rw [List.getElem?_set_self h1] at h
      cases h
      exact ⟨p, e, hc⟩
    · rw [List.getElem?_set_ne (Ne.symm hk)] at h
      obtain ⟨a, ha, r⟩ := s.cells k c' h
      exact ⟨a, ha, r.ext x (upd_ne fun z => hk (s.inj k n p (by rw [← z]; exact ha) e))⟩
  dom := fun k a h => by rw [List.length_set]; exact s.dom k a h
  inj := s.inj
  nfz := s.nfz
  ft := fun a h => by
    unfold upd
    split
    · simp
    · exact s.ft a h
  tl := tabs_set s.tl ho nt nc
  tb := fun a ps h => by
    unfold upd at h
    split at h
    · cases h; exact absurd rfl (no ps)
    · exact s.tb a ps h
end

/-! ### the slots -/
def SlRep (G : Gl) (W : Wd) (H : Hp) : Sl → Option V → Prop
  | .u, _ => True
  | .v d, ov => ∃ v, ov = some v ∧ Rep G W H d v
  | .o (.lst ds), ov => ∃ a vs, ov = some (.ref a) ∧ H a = some (.lst vs) ∧ Reps G W H ds vs ∧ ¬ W.fz a ∧ ∀ n, W.m n ≠ some a
  | .o (.dic ds), ov => ∃ a vs, ov = some (.ref a) ∧ H a = some (.dK vs) ∧ RepK G W H ds vs ∧ ¬ W.fz a ∧ ∀ n, W.m n ≠ some a
  | .o (.dit ds), ov => ∃ a vs, ov = some (.ref a) ∧ H a = some (.dT vs) ∧ RepT G W H ds vs ∧ ¬ W.fz a ∧ ∀ n, W.m n ≠ some a
  | .o _, _ => False
/-- slot i owns what stands at a -/
def Owns (ρ : Rho) (σ : L2.St) (i : Nat) (a : Addr) : Prop := (∃ d, ρ[i]? = some (.o d)) ∧ σ[i]? = some (some (.ref a))
structure EnvRep (G : Gl) (H0 : Hp) (W : Wd) (H : Hp) (ρ : Rho) (σ : L2.St) : Prop where
  len : ρ.length = σ.length
  at_ : ∀ (i : Nat) (s : Sl) (ov : Option V), ρ[i]? = some s → σ[i]? = some ov → SlRep G W H s ov
  ap : ∀ i j a, Owns ρ σ i a → Owns ρ σ j a → i = j
  nw : ∀ i a, Owns ρ σ i a → H0 a = none
theorem SlRep.ext {G : Gl} {W W' : Wd} {H H' : Hp} (x : Ext W H W' H') {s : Sl} {ov : Option V} (h : SlRep G W H s ov) : SlRep G W' H' s ov := by
  have nn : ∀ (a : Addr) (o : HO), H a = some o → ¬ W.fz a → (∀ n, W.m n ≠ some a) → ¬ W'.fz a ∧ ∀ n, W'.m n ≠ some a := fun a o e f m =>
    ⟨fun z => (x.nf a z).elim f fun q => (by rw [e] at q; cases q), fun n z => (x.nm n a z).elim (m n) fun q => (by rw [e] at q; cases q)⟩
  cases s with
  | u => trivial
  | v d => obtain ⟨v, e, r⟩ := h; exact ⟨v, e, r.ext x.toLk⟩
  | o d =>
    cases d with
    | lst ds =>
      obtain ⟨a, vs, e, q, r, f, m⟩ := h
      exact ⟨a, vs, e, x.k a _ q m (fun ps z => by cases z), r.ext x.toLk, nn a _ q f m⟩
    | dic ds =>
      obtain ⟨a, vs, e, q, r, f, m⟩ := h
      exact ⟨a, vs, e, x.k a _ q m (fun ps z => by cases z), r.ext x.toLk, nn a _ q f m⟩
    | dit ds =>
      obtain ⟨a, vs, e, q, r, f, m⟩ := h
      exact ⟨a, vs, e, x.k a _ q m (fun ps z => by cases z), r.ext x.toLk, nn a _ q f m⟩
    | _ => exact h.elim
theorem EnvRep.ext {G : Gl} {H0 : Hp} {W W' : Wd} {H H' : Hp} {ρ : Rho} {σ : L2.St} (x : Ext W H W' H') (h : EnvRep G H0 W H ρ σ) : EnvRep G H0 W' H' ρ σ :=
  ⟨h.len, fun i s ov a b => (h.at_ i s ov a b).ext x, h.ap, h.nw⟩
/-- a frame: what is fixed, its world and heap at the entry -/
structure Fr where
  G : Gl
  W0 : Wd
  H0 : Hp
structure Gd (F : Fr) (W : Wd) (ρ : Rho) (hp : Hc) (σ : L2.St) (H : Hp) : Prop where
  x0 : Ext F.W0 F.H0 W H
  env : EnvRep F.G F.H0 W H ρ σ
  st : St0 F.G W H hp
theorem Gd.ext {F : Fr} {W W' : Wd} {ρ : Rho} {hp hp' : Hc} {σ : L2.St} {H H' : Hp} (g : Gd F W ρ hp σ H) (x : Ext W H W' H') (s : St0 F.G W' H' hp') : Gd F W' ρ hp' σ H' := ⟨g.x0.trans x, g.env.ext x, s⟩
/-- a slot that is read -/
theorem Gd.slot {F : Fr} {W : Wd} {ρ : Rho} {hp : Hc} {σ : L2.St} {H : Hp} (g : Gd F W ρ hp σ H) {i : Nat} {s : Sl} (e : ρ[i]? = some s) : ∃ ov, σ[i]? = some ov ∧ SlRep F.G W H s ov := by
  have h1 := (List.getElem?_eq_some_iff.mp e).1
  rw [g.env.len] at h1
  exact ⟨σ[i], List.getElem?_eq_getElem h1, g.env.at_ i s _ e (List.getElem?_eq_getElem h1)⟩

/-! ### what a run gives -/
inductive R (α : Type) where
  | ok (a : α) (h : Hc)
  | ex (c : Nat) (h : Hc)
  | bad
  deriving Inhabited
inductive O where
  | nx (ρ : Rho) (h : Hc) | rt (d : D) (h : Hc) | bk (ρ : Rho) (h : Hc) | ct (ρ : Rho) (h : Hc)
  | ex (c : Nat) (ρ : Rho) (h : Hc)
  | bad
  deriving Inhabited
abbrev EM := Rho → Hc → R D
abbrev TM := Rho → Hc → R Bool
abbrev AM := Rho → Hc → R (List D)
abbrev SM := Rho → Hc → O
abbrev FM := List D → Hc → R D

/-- what a run's answer asks of what follows -/
def Fin {α β : Type} (F : Fr) (wx : WX) (σ : L2.St) (rel : Wd → Hp → α → β → Prop) (W : Wd) (H : Hp) (Q : β → Hp → Prop) : R α → Prop
  | .ok d hp' => ∀ W' v H', Ext W H W' H' → St0 F.G W' H' hp' → rel W' H' d v → Q v H'
  | .ex c hp' => ∀ W' H', Ext W H W' H' → St0 F.G W' H' hp' → wx (.ref (F.G.ca c)) none σ H'
  | .bad => False
def TrE (F : Fr) (wx : WX) (em : EM) : TE := fun σ H Q => ∃ W ρ hp, Gd F W ρ hp σ H ∧ Fin F wx σ (Rep F.G) W H Q (em ρ hp)
def TrT (F : Fr) (wx : WX) (tm : TM) : TT := fun σ H Q => ∃ W ρ hp, Gd F W ρ hp σ H ∧ Fin F wx σ (fun _ _ b c => b = c) W H Q (tm ρ hp)
def TrA (F : Fr) (wx : WX) (am : AM) : TA := fun σ H Q => ∃ W ρ hp, Gd F W ρ hp σ H ∧ Fin F wx σ (Reps F.G) W H Q (am ρ hp)
/-- a value that is only looked at -/
def RepB (G : Gl) (W : Wd) (H : Hp) : D → V → Prop
  | .lst ds, v => ∃ a vs, v = .ref a ∧ (H a = some (.lst vs) ∧ ∀ n, W.m n ≠ some a) ∧ Reps G W H ds vs
  | .dic ds, v => ∃ a vs, v = .ref a ∧ (H a = some (.dK vs) ∧ ∀ n, W.m n ≠ some a) ∧ RepK G W H ds vs
  | .dit ds, v => ∃ a vs, v = .ref a ∧ (H a = some (.dT vs) ∧ ∀ n, W.m n ≠ some a) ∧ RepT G W H ds vs
  | d, v => Rep G W H d v
def TrB (F : Fr) (wx : WX) (em : EM) : TE := fun σ H Q => ∃ W ρ hp, Gd F W ρ hp σ H ∧ Fin F wx σ (RepB F.G) W H Q (em ρ hp)
theorem RepB.ext {G : Gl} {W W' : Wd} {H H' : Hp} (x : Ext W H W' H') {d : D} {v : V} (h : RepB G W H d v) : RepB G W' H' d v := by
  have nn : ∀ (a : Addr) (o : HO), H a = some o → (∀ n, W.m n ≠ some a) → ∀ n, W'.m n ≠ some a := fun a o e m n z => (x.nm n a z).elim (m n) fun q => by rw [e] at q; cases q
  cases d with
  | lst ds =>
    obtain ⟨a, vs, e, ⟨q, m⟩, r⟩ := h
    exact ⟨a, vs, e, ⟨x.k a _ q m (fun ps z => by cases z), nn a _ q m⟩, r.ext x.toLk⟩
  | dic ds =>
    obtain ⟨a, vs, e, ⟨q, m⟩, r⟩ := h
    exact ⟨a, vs, e, ⟨x.k a _ q m (fun ps z => by cases z), nn a _ q m⟩, r.ext x.toLk⟩
  | dit ds =>
    obtain ⟨a, vs, e, ⟨q, m⟩, r⟩ := h
    exact ⟨a, vs, e, ⟨x.k a _ q m (fun ps z => by cases z), nn a _ q m⟩, r.ext x.toLk⟩
  | non => exact Rep.ext x.toLk h
  | bl _ => exact Rep.ext x.toLk h
  | int _ => exact Rep.ext x.toLk h
  | str _ => exact Rep.ext x.toLk h
  | tup _ => exact Rep.ext x.toLk h
  | ref _ => exact Rep.ext x.toLk h
  | lam _ => exact Rep.ext x.toLk h
  | scr _ => exact Rep.ext x.toLk h
theorem Rep.toB {G : Gl} {W : Wd} {H : Hp} {hp : Hc} (s : St0 G W H hp) {d : D} {v : V} (h : Rep G W H d v) : RepB G W H d v := by
  have nn : ∀ a, W.fz a → ∀ n, W.m n ≠ some a := fun a f n e => s.nfz n a e f
  cases d with
  | lst ds =>
    obtain ⟨a, vs, e, ⟨f, q⟩, r⟩ := h
    exact ⟨a, vs, e, ⟨q, nn a f⟩, r⟩
  | dic ds => obtain ⟨a, vs, e, ⟨f, q⟩, r⟩ := h; exact ⟨a, vs, e, ⟨q, nn a f⟩, r⟩
  | dit ds => obtain ⟨a, vs, e, ⟨f, q⟩, r⟩ := h; exact ⟨a, vs, e, ⟨q, nn a f⟩, r⟩
  | non => exact h
  | bl _ => exact h
  | int _ => exact h
  | str _ => exact h
  | tup _ => exact h
  | ref _ => exact h
  | lam _ => exact h
  | scr _ => exact h
end Z

/-! Z3: expressions -/
namespace Z
open PySem PySem.Spec PyProof.Rows L2

def R.bind {α β : Type} (r : R α) (k : α → Hc → R β) : R β := match r with
  | .ok a h => k a h
  | .ex c h => .ex c h
  | .bad => .bad
@[simp] theorem R.bind_ok {α β : Type} (a : α) (h : Hc) (k : α → Hc → R β) : (R.ok a h).bind k = k a h := rfl
@[simp] theorem R.bind_ex {α β : Type} (c : Nat) (h : Hc) (k : α → Hc → R β) : (R.ex c h : R α).bind k = .ex c h := rfl
@[simp] theorem R.bind_bad {α β : Type} (k : α → Hc → R β) : (R.bad : R α).bind k = .bad := rfl

structure Xk (F : Fr) (X : Cx) (wx : WX) : Prop where
  K : F.G.K = X.K
  tk : Takes X wx
  calm : X.calm = true
  nd : X.N.Nodup
theorem PE.imp {X : Cx} {e : Expr} {t t' : TE} (h : PE X e t) (k : ∀ σ H Q, t' σ H Q → t σ H Q) : PE X e t' := ⟨fun p s σ H Q I q => h.run p s σ H Q I (k σ H Q q)⟩
theorem PT.imp {X : Cx} {e : Expr} {t t' : TT} (h : PT X e t) (k : ∀ σ H Q, t' σ H Q → t σ H Q) : PT X e t' := ⟨fun p s σ H Q I q => h.run p s σ H Q I (k σ H Q q)⟩
theorem PA.imp {X : Cx} {e : List Expr} {t t' : TA} (h : PA X e t) (k : ∀ σ H Q, t' σ H Q → t σ H Q) : PA X e t' := ⟨fun pos p s σ H Q I q => h.run pos p s σ H Q I (k σ H Q q)⟩
theorem PS.imp {X : Cx} {e : Stmt} {t t' : TS} (h : PS X e t) (k : ∀ D σ H, t' D σ H → t D σ H) : PS X e t' := ⟨fun p s σ H D I q => h.run p s σ H D I (k D σ H q)⟩
theorem PSs.imp {X : Cx} {e : List Stmt} {t t' : TS} (h : PSs X e t) (k : ∀ D σ H, t' D σ H → t D σ H) : PSs X e t' := ⟨fun p s σ H D I q => h.run p s σ H D I (k D σ H q)⟩

section
variable {F : Fr} {X : Cx} {wx : WX} {σ : L2.St} {W W' : Wd} {H H' : Hp}
theorem Fin.ext {α β : Type} {rel : Wd → Hp → α → β → Prop} {Q : β → Hp → Prop} {r : R α} (x : Ext W H W' H') (h : Fin F wx σ rel W H Q r) : Fin F wx σ rel W' H' Q r := by
  cases r with
  | ok d hp => exact fun W2 v H2 x2 => h W2 v H2 (x.trans x2)
  | ex c hp => exact fun W2 H2 x2 => h W2 H2 (x.trans x2)
  | bad => exact h
theorem Fin.bind {α β α' β' : Type} {rel : Wd → Hp → α → β → Prop} {rel' : Wd → Hp → α' → β' → Prop} {Q : β → Hp → Prop} {Q' : β' → Hp → Prop} {r : R α} {k : α → Hc → R α'} (h : Fin F wx σ rel' W H Q' (r.bind k))
    (nx : ∀ d hp' W' v H', Ext W H W' H' → St0 F.G W' H' hp' → rel W' H' d v → Fin F wx σ rel' W' H' Q' (k d hp') → Q v H') : Fin F wx σ rel W H Q r := by
  cases r with
  | ok d hp => exact fun W2 v H2 x2 s2 r2 => nx d hp W2 v H2 x2 s2 r2 (Fin.ext x2 h)
  | ex c hp => exact h
  | bad => exact h
/-- the answer at once -/
theorem Fin.here {α β : Type} {rel : Wd → Hp → α → β → Prop} {Q : β → Hp → Prop} {d : α} {hp : Hc} {v : β} (h : Fin F wx σ rel W H Q (.ok d hp)) (s : St0 F.G W H hp) (r : rel W H d v) : Q v H := h W v H (Ext.refl W H) s r

/-! ### names, constants -/
def eC (d : D) : EM := fun _ h => .ok d h
def eVar (i : Nat) : EM := fun ρ h => match ρ[i]? with
  | some (.v d) => .ok d h
  | _ => .bad
/-- a name that is only looked at -/
def eLook (i : Nat) : EM := fun ρ h => match ρ[i]? with
  | some (.v d) => .ok d h
  | some (.o d) => .ok d h
  | _ => .bad
theorem e_var {i : Nat} {x : Str} {pos : Pos} (hN : X.N[i]? = some x := by rfl) (hv : Vis X.env.scope x := by first | exact Or.inl rfl | exact Or.inr (Or.inl rfl) | exact Or.inr (Or.inr rfl)) (hd : (x == ("__debug__" : Str)) = false := by decide)
    (hcd : (x == ("__classdict__" : Str)) = false := by decide) : PE X (.Name x pos) (TrE F wx (eVar i)) :=
  PE.imp (pe_var hN hv hd hcd) fun σ H Q ⟨W, ρ, hp, g, h⟩ => by
    unfold eVar at h
    cases e : ρ[i]? with
    | none => rw [e] at h; exact h.elim
    | some s =>
      rw [e] at h
      cases s with
      | u => exact h.elim
      | o d => exact h.elim
      | v d =>
        obtain ⟨ov, e2, v, e3, r⟩ := g.slot e
        subst e3
        exact ⟨v, e2, Fin.here h g.st r⟩
theorem b_look {i : Nat} {x : Str} {pos : Pos} (hN : X.N[i]? = some x := by rfl) (hv : Vis X.env.scope x := by first | exact Or.inl rfl | exact Or.inr (Or.inl rfl) | exact Or.inr (Or.inr rfl)) (hd : (x == ("__debug__" : Str)) = false := by decide)
    (hcd : (x == ("__classdict__" : Str)) = false := by decide) : PE X (.Name x pos) (TrB F wx (eLook i)) :=
  PE.imp (pe_var hN hv hd hcd) fun σ H Q ⟨W, ρ, hp, g, h⟩ => by
    unfold eLook at h
    cases e : ρ[i]? with
    | none => rw [e] at h; exact h.elim
    | some s =>
      rw [e] at h
      obtain ⟨ov, e2, q⟩ := g.slot e
      cases s with
      | u => exact h.elim
      | v d =>
        obtain ⟨v, e3, r⟩ := q
        subst e3
        exact ⟨v, e2, Fin.here h g.st (r.toB g.st)⟩
      | o d =>
        cases d with
        | lst ds =>
          obtain ⟨a, vs, e3, q, r, f, m⟩ := q
          subst e3
          exact ⟨_, e2, Fin.here h g.st ⟨a, vs, rfl, ⟨q, m⟩, r⟩⟩
        | dic ds =>
          obtain ⟨a, vs, e3, q, r, f, m⟩ := q
          subst e3
          exact ⟨_, e2, Fin.here h g.st ⟨a, vs, rfl, ⟨q, m⟩, r⟩⟩
        | dit ds =>
          obtain ⟨a, vs, e3, q, r, f, m⟩ := q
          subst e3
          exact ⟨_, e2, Fin.here h g.st ⟨a, vs, rfl, ⟨q, m⟩, r⟩⟩
        | _ => exact q.elim
theorem toB {e : Expr} {em : EM} (h : PE X e (TrE F wx em)) : PE X e (TrB F wx em) := PE.imp h fun σ H Q ⟨W, ρ, hp, g, q⟩ => ⟨W, ρ, hp, g, by
  cases z : em ρ hp with
  | ok d hp' => rw [z] at q; exact fun W' v H' x s r => q W' v H' x s (r.toB s)
  | ex c hp' => rw [z] at q; exact q
  | bad => rw [z] at q; exact q⟩
theorem e_int {i j pos} : PE X (.Constant (.int i) j pos) (TrE F wx (eC (.int i))) := PE.imp pe_int fun σ H Q ⟨W, ρ, hp, g, h⟩ => Fin.here h g.st rfl
theorem e_bl {b j pos} : PE X (.Constant (.bool b) j pos) (TrE F wx (eC (.bl b))) := PE.imp pe_bl fun σ H Q ⟨W, ρ, hp, g, h⟩ => Fin.here h g.st rfl
theorem e_non {j pos} : PE X (.Constant .none j pos) (TrE F wx (eC .non)) := PE.imp pe_non fun σ H Q ⟨W, ρ, hp, g, h⟩ => Fin.here h g.st rfl
theorem e_str {x : Str} {l : List Nat} {j pos} (hx : x = ⟨l.toArray⟩ := by rfl) (ho : okS l := by rfl) : PE X (.Constant (.str x) j pos) (TrE F wx (eC (.str l))) := PE.imp pe_str fun σ H Q ⟨W, ρ, hp, g, h⟩ => Fin.here h g.st ⟨by rw [hx], ho⟩

/-! ### two-place operators -/
def eBin (op : D → D → Hc → R D) (a b : EM) : EM := fun ρ h => (a ρ h).bind fun x h1 => (b ρ h1).bind fun y h2 => op x y h2
abbrev RelD := Wd → Hp → D → V → Prop
/-- what an operator does with data is what it does with values -/
def OpS (F : Fr) (rx ry : RelD) (op : D → D → Hc → R D) (r : R2) : Prop :=
  ∀ (wx : WX) (σ : L2.St) (W : Wd) (H : Hp) (hp : Hc) (x y : D) (v u : V) (Q : VK), St0 F.G W H hp → rx W H x v → ry W H y u → Fin F wx σ (Rep F.G) W H Q (op x y hp) → r v u H Q
def Tr (rel : Gl → RelD) (F : Fr) (wx : WX) (em : EM) : TE := fun σ H Q => ∃ W ρ hp, Gd F W ρ hp σ H ∧ Fin F wx σ (rel F.G) W H Q (em ρ hp)
def Mono (rx : RelD) : Prop := ∀ (W : Wd) (H : Hp) (W' : Wd) (H' : Hp) (d : D) (v : V), Ext W H W' H' → rx W H d v → rx W' H' d v
theorem mono_rep {G : Gl} : Mono (Rep G) := fun _ _ _ _ _ _ x r => Rep.ext x.toLk r
theorem mono_repB {G : Gl} : Mono (RepB G) := fun _ _ _ _ _ _ x r => RepB.ext x r
theorem bin_imp {rx ry : RelD} {op : D → D → Hc → R D} {r : R2} {a b : EM} (hx : Mono rx) (hs : OpS F rx ry op r) {H : Hp} {Q : VK} {W : Wd} {ρ : Rho} {hp : Hc} (g : Gd F W ρ hp σ H)
    (h : Fin F wx σ (Rep F.G) W H Q (eBin op a b ρ hp)) :
    Fin F wx σ rx W H (fun x H1 => ∃ W ρ hp, Gd F W ρ hp σ H1 ∧ Fin F wx σ ry W H1 (fun y H2 => r x y H2 Q) (b ρ hp)) (a ρ hp) := by
  refine Fin.bind h fun d hp1 W1 v H1 x1 s1 r1 h1 => ⟨W1, ρ, hp1, g.ext x1 s1, ?_⟩
  refine Fin.bind h1 fun e hp2 W2 u H2 x2 s2 r2 h2 => ?_
  exact hs wx σ W2 H2 hp2 d e v u Q s2 (hx _ _ _ _ _ _ x2 r1) r2 h2
theorem e_bin {op : D → D → Hc → R D} {o : Operator} {r : R2} {a b : Expr} {ea eb : EM} {pos : Pos} (ho : OpR X (binaryOp o) r) (hs : OpS F (Rep F.G) (Rep F.G) op r) (ha : PE X a (TrE F wx ea)) (hb : PE X b (TrE F wx eb)) : PE X (.BinOp a o b pos) (TrE F wx (eBin op ea eb)) :=
  PE.imp (pe_op ho ha hb) fun σ H Q ⟨W, ρ, hp, g, h⟩ => ⟨W, ρ, hp, g, bin_imp mono_rep hs g h⟩
theorem e_binB {op : D → D → Hc → R D} {o : Operator} {r : R2} {a b : Expr} {ea eb : EM} {pos : Pos} (ho : OpR X (binaryOp o) r) (hs : OpS F (RepB F.G) (RepB F.G) op r) (ha : PE X a (TrB F wx ea)) (hb : PE X b (TrB F wx eb)) : PE X (.BinOp a o b pos) (TrE F wx (eBin op ea eb)) :=
  PE.imp (pe_op ho ha hb) fun σ H Q ⟨W, ρ, hp, g, h⟩ => ⟨W, ρ, hp, g, bin_imp mono_repB hs g h⟩
theorem e_cmp {op : D → D → Hc → R D} {o : CmpOp} {r : R2} {a b : Expr} {ea eb : EM} {pos : Pos} (ho : OpR X (compareOp o) r) (hs : OpS F (RepB F.G) (RepB F.G) op r) (ha : PE X a (TrB F wx ea)) (hb : PE X b (TrB F wx eb)) (hm : behindInMarks o b = false := by first | exact nomark _ | rfl) : PE X (.Compare a [o] [b] pos) (TrE F wx (eBin op ea eb)) :=
  PE.imp (pe_cmpR ho ha hb hm) fun σ H Q ⟨W, ρ, hp, g, h⟩ => ⟨W, ρ, hp, g, bin_imp mono_repB hs g h⟩
end
end Z

/-! Z4: operators -/
namespace Z
open PySem PySem.Spec PyProof.Rows L2


theorem lim_ok {n : Nat} (h : n ≤ 16777216) : n ≤ sizeLine := by rw [sizeLine_eq]; exact h
theorem lim_lt {n : Nat} (h : n < 16777216) : n < sizeLine := by rw [sizeLine_eq]; exact h

/-- a box is opened -/
def unbox (hp : Hc) : D → D
  | .ref n => match hp[n]? with
    | some (.box d) => d
    | _ => .ref n
  | d => d
def RepU (G : Gl) (W : Wd) (H : Hp) : D → V → Prop
  | .lst ds, v => ∃ a vs, v = .ref a ∧ H a = some (.lst vs) ∧ Reps G W H ds vs
  | .dic ds, v => ∃ a vs, v = .ref a ∧ H a = some (.dK vs) ∧ RepK G W H ds vs
  | .dit ds, v => ∃ a vs, v = .ref a ∧ H a = some (.dT vs) ∧ RepT G W H ds vs
  | d, v => Rep G W H d v
section
variable {F : Fr} {X : Cx} {wx : WX} {σ : L2.St} {G : Gl} {W W' : Wd} {H H' : Hp} {hp : Hc}
theorem nl_lk : Lk W.nl H W H := ⟨fun _ _ h => h, fun _ h => h, fun _ _ h => h, fun _ _ _ e _ => e⟩
theorem unbox_rep (s : St0 G W H hp) {d : D} {v : V} (r : RepB G W H d v) : RepU G W H (unbox hp d) v := by
  cases d with
  | lst ds => obtain ⟨a, vs, e, ⟨q, m⟩, r⟩ := r; exact ⟨a, vs, e, q, r⟩
  | dic ds => obtain ⟨a, vs, e, ⟨q, m⟩, r⟩ := r; exact ⟨a, vs, e, q, r⟩
  | dit ds => obtain ⟨a, vs, e, ⟨q, m⟩, r⟩ := r; exact ⟨a, vs, e, q, r⟩
  | non => exact r
  | bl _ => exact r
  | int _ => exact r
  | str _ => exact r
  | tup _ => exact r
  | lam _ => exact r
  | scr _ => exact r
  | ref n =>
    show RepU G W H (match hp[n]? with | some (.box d) => d | _ => .ref n) v
    cases e : hp[n]? with
    | none => exact r
    | some c =>
      cases c with
      | ins _ _ => exact r
      | box d =>
        obtain ⟨a, ev, em⟩ := r
        obtain ⟨a', em', q⟩ := s.cells n _ e
        rw [em] at em'
        cases em'
        cases d with
        | lst ds => obtain ⟨vs, q, r⟩ := q; exact ⟨a, vs, ev, q, r.ext nl_lk⟩
        | dic ds => obtain ⟨vs, q, r⟩ := q; exact ⟨a, vs, ev, q, r.ext nl_lk⟩
        | dit ds => obtain ⟨vs, q, r⟩ := q; exact ⟨a, vs, ev, q, r.ext nl_lk⟩
        | _ => exact q.elim
theorem Reps.length : ∀ {ds : List D} {vs : List V}, Reps G W H ds vs → ds.length = vs.length
  | [], _, h => by cases h; rfl
  | d :: ds, _, ⟨v, r, e, _, t⟩ => by rw [e, List.length_cons, List.length_cons, Reps.length t]
theorem Reps.append : ∀ {ds es : List D} {vs us : List V}, Reps G W H ds vs → Reps G W H es us → Reps G W H (ds ++ es) (vs ++ us)
  | [], _, _, _, h, k => by cases h; exact k
  | d :: ds, _, _, _, ⟨v, r, e, h, t⟩, k => by rw [e]; exact ⟨v, _, rfl, h, Reps.append t k⟩
theorem Reps.get : ∀ {ds : List D} {vs : List V} {i : Nat} {d : D}, Reps G W H ds vs → ds[i]? = some d → ∃ v, vs[i]? = some v ∧ Rep G W H d v
  | [], _, _, _, _, e => by simp at e
  | d :: ds, _, 0, _, ⟨v, r, e, h, t⟩, q => by rw [e]; simp at q; subst q; exact ⟨v, rfl, h⟩
  | d :: ds, _, i + 1, _, ⟨v, r, e, h, t⟩, q => by
    rw [e]
    obtain ⟨u, h1, h2⟩ := Reps.get t (by simpa using q)
    exact ⟨u, by simpa using h1, h2⟩
theorem Reps.drop : ∀ {ds : List D} {vs : List V} (n : Nat), Reps G W H ds vs → Reps G W H (ds.drop n) (vs.drop n)
  | _, _, 0, h => h
  | [], _, n + 1, h => by cases h; exact rfl
  | d :: ds, _, n + 1, ⟨v, r, e, h, t⟩ => by rw [e]; exact Reps.drop n t
theorem Reps.take : ∀ {ds : List D} {vs : List V} (n : Nat), Reps G W H ds vs → Reps G W H (ds.take n) (vs.take n)
  | _, _, 0, h => rfl
  | [], _, n + 1, h => by cases h; exact rfl
  | d :: ds, _, n + 1, ⟨v, r, e, h, t⟩ => by rw [e]; exact ⟨v, _, rfl, h, Reps.take n t⟩
theorem Reps.set : ∀ {ds : List D} {vs : List V} {d : D} {v : V} (n : Nat), Rep G W H d v → Reps G W H ds vs → Reps G W H (ds.set n d) (vs.set n v)
  | [], _, _, _, _, _, h => by cases h; exact rfl
  | d :: ds, _, _, _, 0, k, ⟨v, r, e, h, t⟩ => by rw [e]; exact ⟨_, _, rfl, k, t⟩
  | d :: ds, _, _, _, n + 1, k, ⟨v, r, e, h, t⟩ => by rw [e]; exact ⟨v, _, rfl, h, Reps.set n k t⟩
theorem Reps.reverse : ∀ {ds : List D} {vs : List V}, Reps G W H ds vs → Reps G W H ds.reverse vs.reverse
  | [], _, h => by cases h; exact rfl
  | d :: ds, _, ⟨v, r, e, h, t⟩ => by rw [e, List.reverse_cons, List.reverse_cons]; exact Reps.append (Reps.reverse t) ⟨v, [], rfl, h, rfl⟩
theorem Reps.rep {ds : List D} {vs : List V} (h : Reps G W H ds vs) : ∀ k : Nat, Reps G W H (List.replicate k ds).flatten (List.replicate k vs).flatten
  | 0 => rfl
  | k + 1 => by rw [List.replicate_succ, List.replicate_succ, List.flatten_cons, List.flatten_cons]; exact h.append (Reps.rep h k)
theorem TupAt.sq {a : Addr} {vs : List V} (h : TupAt G W H a vs) : SqT G.K H a vs := by
  rcases h with ⟨_, h⟩ | h
  · exact .inl h
  · exact .inr h

/-- a new thing that stays as it is: Q for every place -/
theorem Fin.mk {p : Addr} {o : HO} {d : D} {Q : VK} (s : St0 F.G W H hp) (hp0 : H p = none) (h : Fin F wx σ (Rep F.G) W H Q (.ok d hp)) (r : Rep F.G (W.fzA p) (upd H p o) d (.ref p)) (no : noTbl o := by intro ps z; cases z) : Q (.ref p) (upd H p o) :=
  h _ _ _ (ext_fz s hp0) (st_fz s hp0 no) r
theorem Fin.mkTup {p : Addr} {ds : List D} {vs : List V} {Q : VK} (s : St0 F.G W H hp) (hp0 : H p = none) (r : Reps F.G W H ds vs) (h : Fin F wx σ (Rep F.G) W H Q (.ok (.tup ds) hp)) : Q (.ref p) (upd H p (.tup vs)) :=
  Fin.mk s hp0 h ⟨p, vs, rfl, fz_tup, r.ext (ext_fz s hp0).toLk⟩
theorem Fin.mkLst {p : Addr} {ds : List D} {vs : List V} {Q : VK} (s : St0 F.G W H hp) (hp0 : H p = none) (r : Reps F.G W H ds vs) (h : Fin F wx σ (Rep F.G) W H Q (.ok (.lst ds) hp)) : Q (.ref p) (upd H p (.lst vs)) :=
  Fin.mk s hp0 h ⟨p, vs, rfl, fz_lst, r.ext (ext_fz s hp0).toLk⟩

/-! ### + -/
def opAdd (x y : D) (h : Hc) : R D := match unbox h x, unbox h y with
  | .int i, .int j => .ok (.int (i + j)) h
  | .str a, .str b => if a.length + b.length ≤ 16777216 then .ok (.str (a ++ b)) h else .bad
  | .tup a, .tup b => if a.length + b.length ≤ 16777216 then .ok (.tup (a ++ b)) h else .bad
  | .lst a, .lst b => if a.length + b.length ≤ 16777216 then .ok (.lst (a ++ b)) h else .bad
  | .int i, .bl k => .ok (.int (i + if k then 1 else 0)) h
  | _, _ => .bad
def rAll (K : PySem.W.Frag) : R2 := fun x y H Q => (rI0 (fun i j => .int (i + j)) x y H Q) ∨ (∃ i j, x = .str i ∧ y = .str j ∧ i.length + j.length ≤ sizeLine ∧ Q (.str (i ++ j)) H) ∨ rCatA K x y H Q ∨ rCat x y H Q ∨ (∃ i k, x = .int i ∧ y = .bl k ∧ Q (.int (i + b2i k)) H)
theorem op_addAll : OpR X (binaryOp .Add) (rAll X.K) := op_add.or (op_add_str.or (op_catA.or (op_cat.or op_add_ib)))
theorem okS_app {a b : List Nat} (h : okS a) (k : okS b) : okS (a ++ b) := by unfold okS; rw [List.all_append, h, k]; rfl
theorem str_app (a b : List Nat) : (⟨a.toArray⟩ : Str) ++ ⟨b.toArray⟩ = ⟨(a ++ b).toArray⟩ := SX.S_cat a b
theorem str_len (a : List Nat) : Str.length ⟨a.toArray⟩ = a.length := SX.S_len a
theorem s_add (hK : F.G.K = X.K) : OpS F (RepB F.G) (RepB F.G) opAdd (rAll X.K) := by
  intro wx σ W H hp x y v u Q s rx ry h
  have ux := unbox_rep s rx
  have uy := unbox_rep s ry
  unfold opAdd at h
  split at h
  · rename_i i j e1 e2
    rw [e1] at ux; rw [e2] at uy
    cases ux; cases uy
    exact .inl ⟨i, j, rfl, rfl, Fin.here h s rfl⟩
  · rename_i a b e1 e2
    rw [e1] at ux; rw [e2] at uy
    obtain ⟨rfl, o1⟩ := ux
    obtain ⟨rfl, o2⟩ := uy
    split at h
    · rename_i hl
      refine .inr (.inl ⟨_, _, rfl, rfl, ?_, ?_⟩)
      · rw [str_len, str_len]; exact lim_ok hl
      · rw [str_app]; exact Fin.here h s ⟨rfl, okS_app o1 o2⟩
    · exact h.elim
  · rename_i a b e1 e2
    rw [e1] at ux; rw [e2] at uy
    obtain ⟨p, vs, ep, tp, rp⟩ := ux
    obtain ⟨q, us, eq, tq, rq⟩ := uy
    split at h
    · rename_i hl
      refine .inr (.inr (.inl ⟨p, q, vs, us, ep, eq, hK ▸ tp.sq, hK ▸ tq.sq, ?_, fun z => ?_, fun z1 z2 => ?_, fun _ _ p' hp' => ?_⟩))
      · rw [← rp.length, ← rq.length]; exact lim_ok hl
      · subst z
        have e : a = [] := List.eq_nil_of_length_eq_zero (by rw [rp.length]; rfl)
        subst e
        exact Fin.here h s ⟨q, us, rfl, tq, rq⟩
      · subst z2
        have e : b = [] := List.eq_nil_of_length_eq_zero (by rw [rq.length]; rfl)
        subst e
        rw [List.append_nil] at h
        exact Fin.here h s ⟨p, vs, rfl, tp, rp⟩
      · exact Fin.mkTup s hp' (rp.append rq) h
    · exact h.elim
  · rename_i a b e1 e2
    rw [e1] at ux; rw [e2] at uy
    obtain ⟨p, vs, ep, tp, rp⟩ := ux
    obtain ⟨q, us, eq, tq, rq⟩ := uy
    split at h
    · rename_i hl
      refine .inr (.inr (.inr (.inl ⟨p, q, vs, us, ep, eq, tp, tq, ?_, fun p' hp' => ?_⟩)))
      · rw [← rp.length, ← rq.length]; exact lim_ok hl
      · exact Fin.mkLst s hp' (rp.append rq) h
    · exact h.elim
  · rename_i i k e1 e2
    rw [e1] at ux; rw [e2] at uy
    cases ux; cases uy
    refine .inr (.inr (.inr (.inr ⟨i, k, rfl, rfl, ?_⟩)))
    have e : b2i k = if k then 1 else 0 := by cases k <;> rfl
    rw [e]
    exact Fin.here h s rfl
  · exact h.elim
/-! ### -, //, %, **, * -/
def opSub (x y : D) (h : Hc) : R D := match x, y with
  | .int i, .int j => .ok (.int (i - j)) h
  | _, _ => .bad
theorem s_sub : OpS F (RepB F.G) (RepB F.G) opSub (rI0 fun i j => .int (i - j)) := by
  intro wx σ W H hp x y v u Q s rx ry h
  unfold opSub at h
  split at h
  · cases rx; cases ry
    exact ⟨_, _, rfl, rfl, Fin.here h s rfl⟩
  · exact h.elim
def opDiv (x y : D) (h : Hc) : R D := match x, y with
  | .int i, .int j => if j ≠ 0 ∧ j.natAbs < 1073741824 then .ok (.int (i.fdiv j)) h else .bad
  | _, _ => .bad
theorem s_div : OpS F (RepB F.G) (RepB F.G) opDiv (rI CDivN fun i j => .int (i.fdiv j)) := by
  intro wx σ W H hp x y v u Q s rx ry h
  unfold opDiv at h
  split at h
  · cases rx; cases ry
    split at h
    · rename_i hc
      exact ⟨_, _, rfl, rfl, hc, Fin.here h s rfl⟩
    · exact h.elim
  · exact h.elim
def opMod (x y : D) (h : Hc) : R D := match x, y with
  | .int i, .int j => if j ≠ 0 then .ok (.int (i.fmod j)) h else .bad
  | _, _ => .bad
theorem s_mod : OpS F (RepB F.G) (RepB F.G) opMod (rI (fun _ j => j ≠ 0) fun i j => .int (i.fmod j)) := by
  intro wx σ W H hp x y v u Q s rx ry h
  unfold opMod at h
  split at h
  · cases rx; cases ry
    split at h
    · rename_i hc
      exact ⟨_, _, rfl, rfl, hc, Fin.here h s rfl⟩
    · exact h.elim
  · exact h.elim
def opPow (x y : D) (h : Hc) : R D := match x, y with
  | .int i, .int j => if 0 ≤ j ∧ j ≤ 1000000 ∧ i.natAbs < 2 ^ 64 then .ok (.int (i ^ j.toNat)) h else .bad
  | _, _ => .bad
theorem s_pow : OpS F (RepB F.G) (RepB F.G) opPow (rI CPow fun i j => .int (i ^ j.toNat)) := by
  intro wx σ W H hp x y v u Q s rx ry h
  unfold opPow at h
  split at h
  · cases rx; cases ry
    split at h
    · rename_i hc
      exact ⟨_, _, rfl, rfl, hc, Fin.here h s rfl⟩
    · exact h.elim
  · exact h.elim
/-- n times a text -/
def repL {α : Type} (s : List α) (n : Int) : List α := (List.replicate n.toNat s).flatten
theorem okS_rep {a : List Nat} (h : okS a) : ∀ n : Nat, okS (List.replicate n a).flatten
  | 0 => rfl
  | n + 1 => by rw [List.replicate_succ, List.flatten_cons]; exact okS_app h (okS_rep h n)
theorem mul_list (a : List Nat) (n : Int) : Txt.mul ⟨a.toArray⟩ n = ⟨(repL a n).toArray⟩ := by
  unfold Txt.mul repL
  by_cases h1 : n < 1
  · rw [if_pos h1]
    have e : n.toNat = 0 := by omega
    rw [e]; rfl
  · rw [if_neg h1]
    split
    · rename_i hc
      rw [Bool.or_eq_true, beq_iff_eq, beq_iff_eq] at hc
      rcases hc with h | h
      · subst h
        show _ = (⟨((List.replicate 1 a).flatten).toArray⟩ : Str)
        simp
      · have e : a = [] := List.eq_nil_of_length_eq_zero (by rw [← h]; simp [Str.length])
        subst e
        have e2 : ∀ k : Nat, (List.replicate k ([] : List Nat)).flatten = [] := fun k => by simp
        rw [e2]
    · have e := L2.foldl_rep
      have q : ∀ (k : Nat) (acc : List Nat), (List.replicate k a.toArray).foldl (· ++ ·) acc.toArray = (acc ++ (List.replicate k a).flatten).toArray := by
        intro k
        induction k with
        | zero => intro acc; simp
        | succ k ih =>
          intro acc
          rw [List.replicate_succ, List.foldl_cons]
          have e3 : acc.toArray ++ a.toArray = (acc ++ a).toArray := by simp
          rw [e3, ih, List.replicate_succ, List.flatten_cons, List.append_assoc]
      have z := q n.toNat []
      rw [List.nil_append] at z
      exact congrArg Str.mk z
theorem op_mulS : OpR X (binaryOp .Mult) (fun x y H Q => ∃ (a : List Nat) (n : Int), x = .str ⟨a.toArray⟩ ∧ y = .int n ∧ (-1048576 ≤ n ∧ n ≤ 16777216 ∧ a.length * n.toNat ≤ 16777216) ∧ Q (.str ⟨(repL a n).toArray⟩) H) := by
  intro pins s σ H x y v u Q I rx ry h
  obtain ⟨a, n, rfl, rfl, ⟨h0, h1, h2⟩, q⟩ := h
  obtain ⟨t, rfl⟩ := rx
  obtain ⟨t', rfl⟩ := ry
  refine SB.mul (mulOk_of a.length n.toNat (Nat.le_of_eq (str_len a)) (by omega) (by omega) (by omega) h2) fun t2 k => ?_
  rw [mul_list]
  exact ⟨.str _, H, I.tok _, ⟨_, rfl⟩, q⟩
def opMul (x y : D) (h : Hc) : R D := match unbox h x, unbox h y with
  | .int i, .int j => if (-(2 ^ 64) < i ∧ i < 2 ^ 64) ∨ (-(2 ^ 64) < j ∧ j < 2 ^ 64) then .ok (.int (i * j)) h else .bad
  | .str a, .int n => if -1048576 ≤ n ∧ n ≤ 16777216 ∧ a.length * n.toNat ≤ 16777216 then .ok (.str (repL a n)) h else .bad
  | .lst a, .int n => if -1048576 ≤ n ∧ n ≤ 16777216 ∧ a.length * n.toNat ≤ 16777216 then .ok (.lst (repL a n)) h else .bad
  | _, _ => .bad
def rMulAll : R2 := fun x y H Q => (rI CMul (fun i j => .int (i * j)) x y H Q) ∨ (∃ (a : List Nat) (n : Int), x = .str ⟨a.toArray⟩ ∧ y = .int n ∧ (-1048576 ≤ n ∧ n ≤ 16777216 ∧ a.length * n.toNat ≤ 16777216) ∧ Q (.str ⟨(repL a n).toArray⟩) H) ∨ rRep x y H Q
theorem op_mulAll : OpR X (binaryOp .Mult) rMulAll := op_mul.or (op_mulS.or op_rep)
theorem s_mul : OpS F (RepB F.G) (RepB F.G) opMul rMulAll := by
  intro wx σ W H hp x y v u Q s rx ry h
  have ux := unbox_rep s rx
  have uy := unbox_rep s ry
  unfold opMul at h
  split at h
  · rename_i i j e1 e2
    rw [e1] at ux; rw [e2] at uy
    cases ux; cases uy
    split at h
    · rename_i hc
      exact .inl ⟨i, j, rfl, rfl, hc, Fin.here h s rfl⟩
    · exact h.elim
  · rename_i a n e1 e2
    rw [e1] at ux; rw [e2] at uy
    obtain ⟨rfl, o1⟩ := ux
    cases uy
    split at h
    · rename_i hc
      exact .inr (.inl ⟨a, n, rfl, rfl, hc, Fin.here h s ⟨rfl, okS_rep o1 _⟩⟩)
    · exact h.elim
  · rename_i a n e1 e2
    rw [e1] at ux; rw [e2] at uy
    obtain ⟨p, vs, ep, tp, rp⟩ := ux
    cases uy
    split at h
    · rename_i hc
      refine .inr (.inr ⟨p, n, vs, ep, rfl, tp, by omega, by omega, ?_, fun p' hp' => ?_⟩)
      · rw [← rp.length]; exact lim_ok hc.2.2
      · exact Fin.mkLst s hp' (rp.rep _) h
    · exact h.elim
  · exact h.elim
def eNeg (a : EM) : EM := fun ρ h => (a ρ h).bind fun x h1 => match x with
  | .int i => .ok (.int (-i)) h1
  | _ => .bad
theorem e_neg {a : Expr} {ea : EM} {pos : Pos} (ha : PE X a (TrE F wx ea)) : PE X (.UnaryOp .USub a pos) (TrE F wx (eNeg ea)) :=
  PE.imp (pe_un un_neg ha) fun σ H Q ⟨W, ρ, hp, g, h⟩ => ⟨W, ρ, hp, g, Fin.bind h fun d hp' W' v H' x s r q => by
    split at q
    · cases r
      exact ⟨_, rfl, Fin.here q s rfl⟩
    · exact q.elim⟩
end
end Z

/-! Z5: comparisons, tests -/
namespace Z
open PySem PySem.Spec PyProof.Rows L2

/-! ### data that == compares -/
mutual
def D.eqv : D → D → Bool
  | .non, .non => true
  | .bl a, .bl b => a == b
  | .bl a, .int j => decide ((if a then 1 else 0) = j)
  | .int i, .bl b => decide (i = if b then 1 else 0)
  | .int i, .int j => decide (i = j)
  | .str a, .str b => decide (a = b)
  | .tup a, .tup b => eqvs a b
  | .lst a, .lst b => eqvs a b
  | _, _ => false
def eqvs : List D → List D → Bool
  | [], [] => true
  | x :: xs, y :: ys => x.eqv y && eqvs xs ys
  | _, _ => false
end
/-! plain data, n deep at most -/
mutual
def pl (n : Nat) : D → Bool
  | .non | .bl _ | .int _ | .str _ => true
  | .tup xs => match n with
    | 0 => false
    | m + 1 => pls m xs
  | .lst xs => match n with
    | 0 => false
    | m + 1 => pls m xs
  | _ => false
def pls (n : Nat) : List D → Bool
  | [] => true
  | x :: xs => pl n x && pls n xs
end
mutual
def toP : D → PyData
  | .non => .none
  | .bl b => .bool b
  | .int i => .int i
  | .str s => .str ⟨s.toArray⟩
  | .tup xs => .tuple (toPs xs)
  | .lst xs => .list (toPs xs)
  | _ => .none
def toPs : List D → List PyData
  | [] => []
  | x :: xs => toP x :: toPs xs
end
section
variable {F : Fr} {X : Cx} {wx : WX} {σ : L2.St} {G : Gl} {W W' : Wd} {H H' : Hp} {hp : Hc}
theorem sbeq (a b : List Nat) : ((⟨a.toArray⟩ : Str) == ⟨b.toArray⟩) = decide (a = b) := SX.S_beq_eq
mutual
theorem eqv_toP : ∀ (n m : Nat) (x y : D), pl n x = true → pl m y = true → PyData.eqv (toP x) (toP y) = x.eqv y
  | n, m, .non, y, h, k => by cases y <;> first | rfl | (simp [pl] at k)
  | n, m, .bl a, y, h, k => by
    cases y <;> first | rfl | (simp [pl] at k; done) | (simp only [toP, PyData.eqv, D.eqv]; cases a <;> simp <;> rfl)
  | n, m, .int i, y, h, k => by
    cases y <;> first | rfl | (simp [pl] at k; done) | (simp only [toP, PyData.eqv, D.eqv]; rfl)
  | n, m, .str a, y, h, k => by
    cases y <;> first | rfl | (simp [pl] at k; done) | (simp only [toP, PyData.eqv, D.eqv]; exact sbeq _ _)
  | n, m, .tup a, y, h, k => by
    cases y with
    | tup b =>
      cases n with
      | zero => simp [pl] at h
      | succ n =>
        cases m with
        | zero => simp [pl] at k
        | succ m =>
          simp only [toP, PyData.eqv, D.eqv]
          exact eqvs_toP n m a b (by simpa [pl] using h) (by simpa [pl] using k)
    | _ => first | rfl | (simp [pl] at k; done)
  | n, m, .lst a, y, h, k => by
    cases y with
    | lst b =>
      cases n with
      | zero => simp [pl] at h
      | succ n =>
        cases m with
        | zero => simp [pl] at k
        | succ m =>
          simp only [toP, PyData.eqv, D.eqv]
          exact eqvs_toP n m a b (by simpa [pl] using h) (by simpa [pl] using k)
    | _ => first | rfl | (simp [pl] at k; done)
  | n, m, .dic a, y, h, k => by simp [pl] at h
  | n, m, .dit a, y, h, k => by simp [pl] at h
  | n, m, .ref a, y, h, k => by simp [pl] at h
  | n, m, .lam a, y, h, k => by simp [pl] at h
  | n, m, .scr a, y, h, k => by simp [pl] at h
theorem eqvs_toP : ∀ (n m : Nat) (x y : List D), pls n x = true → pls m y = true → PyData.eqvAll (toPs x) (toPs y) = eqvs x y
  | n, m, [], [], h, k => rfl
  | n, m, [], _ :: _, h, k => rfl
  | n, m, _ :: _, [], h, k => rfl
  | n, m, x :: xs, y :: ys, h, k => by
    simp only [pls, Bool.and_eq_true] at h k
    simp only [toPs, PyData.eqvAll, eqvs]
    rw [eqv_toP n m x y h.1 k.1, eqvs_toP n m xs ys h.2 k.2]
end
theorem strOk_of {s : List Nat} (h : okS s) : PyData.strOk ⟨s.toArray⟩ = true := by
  unfold PyData.strOk
  unfold okS at h
  rw [List.all_toArray]
  exact h
/-! data of a state -/
mutual
theorem dp_of : ∀ (n : Nat) (d : D) (v : V), pl n d = true → RepU G W H d v → Dp G.K H v (toP d) ∧ (toP d).canLay0 = true ∧ (toP d).depth ≤ n
  | n, .non, v, h, r => by cases r; exact ⟨.non, rfl, Nat.zero_le _⟩
  | n, .bl b, v, h, r => by cases r; exact ⟨.bl b, rfl, Nat.zero_le _⟩
  | n, .int b, v, h, r => by cases r; exact ⟨.int b, rfl, Nat.zero_le _⟩
  | n, .str b, v, h, r => by
    obtain ⟨rfl, o⟩ := r
    exact ⟨.str _, by simpa [toP, PyData.canLay0] using strOk_of o, Nat.zero_le _⟩
  | 0, .tup b, v, h, r => by simp [pl] at h
  | n + 1, .tup b, v, h, r => by
    obtain ⟨a, vs, rfl, t, q⟩ := r
    obtain ⟨h1, h2, h3⟩ := dps_of n b vs (by simpa [pl] using h) q
    exact ⟨.tup t.sq h1, by simpa [toP, PyData.canLay0] using h2, by simp only [toP, PyData.depth]; omega⟩
  | 0, .lst b, v, h, r => by simp [pl] at h
  | n + 1, .lst b, v, h, r => by
    obtain ⟨a, vs, rfl, t, q⟩ := r
    obtain ⟨h1, h2, h3⟩ := dps_of n b vs (by simpa [pl] using h) q
    exact ⟨.lst (SqL.of t) h1, by simpa [toP, PyData.canLay0] using h2, by simp only [toP, PyData.depth]; omega⟩
  | n, .dic a, v, h, r => by simp [pl] at h
  | n, .dit a, v, h, r => by simp [pl] at h
  | n, .ref a, v, h, r => by simp [pl] at h
  | n, .lam a, v, h, r => by simp [pl] at h
  | n, .scr a, v, h, r => by simp [pl] at h
theorem dps_of : ∀ (n : Nat) (ds : List D) (vs : List V), pls n ds = true → Reps G W H ds vs → DpAll G.K H vs (toPs ds) ∧ PyData.canLayAll0 (toPs ds) = true ∧ PyData.depthAll (toPs ds) ≤ n
  | n, [], vs, h, r => by cases r; exact ⟨.nil, rfl, Nat.zero_le _⟩
  | n, d :: ds, _, h, ⟨v, r, rfl, q, t⟩ => by
    simp only [pls, Bool.and_eq_true] at h
    have qU : RepU G W H d v := by
      cases d with
      | lst ds => obtain ⟨a, vs, e, z, r⟩ := q; exact ⟨a, vs, e, z.2, r⟩
      | dic ds => obtain ⟨a, vs, e, z, r⟩ := q; exact ⟨a, vs, e, z.2, r⟩
      | dit ds => obtain ⟨a, vs, e, z, r⟩ := q; exact ⟨a, vs, e, z.2, r⟩
      | _ => exact q
    obtain ⟨h1, h2, h3⟩ := dp_of n d v h.1 qU
    obtain ⟨k1, k2, k3⟩ := dps_of n ds r h.2 t
    exact ⟨.cons h1 k1, by simp only [toPs, PyData.canLayAll0, h2, k2, Bool.and_self], by simp only [toPs, PyData.depthAll]; omega⟩
end
/-! ### ==, != -/
def opEq (x y : D) (h : Hc) : R D := if pl 12 (unbox h x) && pl 12 (unbox h y) then .ok (.bl ((unbox h x).eqv (unbox h y))) h else .bad
def opNe (x y : D) (h : Hc) : R D := if pl 12 (unbox h x) && pl 12 (unbox h y) then .ok (.bl (!(unbox h x).eqv (unbox h y))) h else .bad
theorem shaped_of {d : PyData} (h : d.canLay0 = true) (k : d.depth ≤ 12) : SeqAt.shaped d = true := by
  unfold SeqAt.shaped
  rw [h, decide_eq_true (by omega : d.depth ≤ 64)]
  rfl
theorem s_eq (hK : F.G.K = X.K) : OpS F (RepB F.G) (RepB F.G) opEq (rEqD X.K) := by
  intro wx σ W H hp x y v u Q s rx ry h
  unfold opEq at h
  split at h
  · rename_i hc
    simp only [Bool.and_eq_true] at hc
    obtain ⟨a1, a2, a3⟩ := dp_of 12 _ v hc.1 (unbox_rep s rx)
    obtain ⟨b1, b2, b3⟩ := dp_of 12 _ u hc.2 (unbox_rep s ry)
    refine ⟨_, _, hK ▸ a1, hK ▸ b1, shaped_of a2 a3, shaped_of b2 b3, ?_⟩
    rw [eqv_toP 12 12 _ _ hc.1 hc.2]
    exact Fin.here h s rfl
  · exact h.elim
theorem s_ne (hK : F.G.K = X.K) : OpS F (RepB F.G) (RepB F.G) opNe (rNeD X.K) := by
  intro wx σ W H hp x y v u Q s rx ry h
  unfold opNe at h
  split at h
  · rename_i hc
    simp only [Bool.and_eq_true] at hc
    obtain ⟨a1, a2, a3⟩ := dp_of 12 _ v hc.1 (unbox_rep s rx)
    obtain ⟨b1, b2, b3⟩ := dp_of 12 _ u hc.2 (unbox_rep s ry)
    refine ⟨_, _, hK ▸ a1, hK ▸ b1, shaped_of a2 a3, shaped_of b2 b3, ?_⟩
    rw [eqv_toP 12 12 _ _ hc.1 hc.2]
    exact Fin.here h s rfl
  · exact h.elim
/-! ### <, <=, >, >= -/
def opCmp (p : Int → Int → Bool) (q : List Nat → List Nat → Bool) (x y : D) (h : Hc) : R D := match x, y with
  | .int i, .int j => .ok (.bl (p i j)) h
  | .str a, .str b => .ok (.bl (q a b)) h
  | _, _ => .bad
abbrev opLt := opCmp (fun i j => decide (i < j)) (fun a b => decide (a < b))
abbrev opLe := opCmp (fun i j => decide (i ≤ j)) (fun a b => !decide (b < a))
abbrev opGt := opCmp (fun i j => decide (j < i)) (fun a b => decide (b < a))
abbrev opGe := opCmp (fun i j => decide (j ≤ i)) (fun a b => !decide (a < b))
def rCmp (p : Int → Int → Bool) (q : List Nat → List Nat → Bool) : R2 := fun x y H Q => (rI0 (fun i j => .bl (p i j)) x y H Q) ∨ ∃ i j : Str, x = .str i ∧ y = .str j ∧ Q (.bl (q i.cps.toList j.cps.toList)) H
theorem s_cmp (p : Int → Int → Bool) (q : List Nat → List Nat → Bool) : OpS F (RepB F.G) (RepB F.G) (opCmp p q) (rCmp p q) := by
  intro wx σ W H hp x y v u Q s rx ry h
  unfold opCmp at h
  split at h
  · cases rx; cases ry
    exact .inl ⟨_, _, rfl, rfl, Fin.here h s rfl⟩
  · obtain ⟨rfl, _⟩ := rx
    obtain ⟨rfl, _⟩ := ry
    exact .inr ⟨_, _, rfl, rfl, Fin.here h s rfl⟩
  · exact h.elim
theorem o_lt : OpR X (compareOp .Lt) (rCmp (fun i j => decide (i < j)) (fun a b => decide (a < b))) := op_lt.or op_lt_str
theorem o_le : OpR X (compareOp .LtE) (rCmp (fun i j => decide (i ≤ j)) (fun a b => !decide (b < a))) := op_le.or op_le_str
theorem o_gt : OpR X (compareOp .Gt) (rCmp (fun i j => decide (j < i)) (fun a b => decide (b < a))) := op_gt.or op_gt_str
theorem o_ge : OpR X (compareOp .GtE) (rCmp (fun i j => decide (j ≤ i)) (fun a b => !decide (a < b))) := op_ge.or op_ge_str
/-! ### is None -/
def eIsN (neg : Bool) (a : EM) : EM := fun ρ h => (a ρ h).bind fun x h1 => match x with
  | .non => .ok (.bl (!neg)) h1
  | _ => .ok (.bl neg) h1
theorem rep_non {d : D} {v : V} (r : Rep G W H d v) : decide (v = V.non) = (match d with | .non => true | _ => false) := by
  cases d with
  | non => cases r; rfl
  | bl _ => cases r; rfl
  | int _ => cases r; rfl
  | str _ => obtain ⟨rfl, _⟩ := r; rfl
  | tup _ => obtain ⟨a, vs, rfl, _⟩ := r; rfl
  | lst _ => obtain ⟨a, vs, rfl, _⟩ := r; rfl
  | dic _ => obtain ⟨a, vs, rfl, _⟩ := r; rfl
  | dit _ => obtain ⟨a, vs, rfl, _⟩ := r; rfl
  | ref _ => obtain ⟨a, rfl, _⟩ := r; rfl
  | lam _ => obtain ⟨a, rfl, _⟩ := r; rfl
  | scr _ => obtain ⟨a, vs, rfl, _⟩ := r; rfl
theorem e_isN {a : Expr} {ea : EM} {j : Nat} {p2 pos : Pos} (ha : PE X a (TrE F wx ea)) : PE X (.Compare a [.Is] [.Constant .none j p2] pos) (TrE F wx (eIsN false ea)) :=
  PE.imp (pe_cmp (pc_isN ha) rfl) fun σ H Q ⟨W, ρ, hp, g, h⟩ => ⟨W, ρ, hp, g, Fin.bind h fun d hp' W' v H' x s r q => by
    rw [rep_non r]
    cases d <;> exact Fin.here q s rfl⟩
theorem e_notN {a : Expr} {ea : EM} {j : Nat} {p2 pos : Pos} (ha : PE X a (TrE F wx ea)) : PE X (.Compare a [.IsNot] [.Constant .none j p2] pos) (TrE F wx (eIsN true ea)) :=
  PE.imp (pe_cmp (pc_notN ha) rfl) fun σ H Q ⟨W, ρ, hp, g, h⟩ => ⟨W, ρ, hp, g, Fin.bind h fun d hp' W' v H' x s r q => by
    rw [rep_non r]
    cases d <;> exact Fin.here q s rfl⟩
/-! ### tests -/
def tB1 (a : EM) : TM := fun ρ h => (a ρ h).bind fun x h1 => match x with
  | .bl b => .ok b h1
  | _ => .bad
theorem t_cmp {op : D → D → Hc → R D} {o : CmpOp} {r : R2} {a b : Expr} {ea eb : EM} {pos : Pos} (ho : OpR X (compareOp o) r) (hs : OpS F (RepB F.G) (RepB F.G) op r) (ha : PE X a (TrB F wx ea)) (hb : PE X b (TrB F wx eb)) (hm : behindInMarks o b = false := by first | exact nomark _ | rfl) :
    PT X (.Compare a [o] [b] pos) (TrT F wx (tB1 (eBin op ea eb))) :=
  PT.imp (pt_cmpR ho ha hb hm) fun σ H Q ⟨W, ρ, hp, g, h⟩ => ⟨W, ρ, hp, g, bin_imp mono_repB hs g (Fin.bind h fun d hp' W' v H' x s r q => by
    split at q
    · cases r
      exact ⟨_, rfl, Fin.here q s rfl⟩
    · exact q.elim)⟩
/-- an expression whose value is a truth value -/
theorem t_val {e : Expr} {em : EM} (h : PE X e (TrE F wx em)) (he : ∀ whole, isTrue e X.env whole = (do let v ← whole; standAt e.pos; holding [v] (truthy v)) := by intro _; rfl) : PT X e (TrT F wx (tB1 em)) :=
  PT.imp (pt_val h he) fun σ H Q ⟨W, ρ, hp, g, h⟩ => ⟨W, ρ, hp, g, Fin.bind h fun d hp' W' v H' x s r q => by
    split at q
    · cases r
      exact ⟨_, rfl, Fin.here q s rfl⟩
    · exact q.elim⟩
def tNotM (a : TM) : TM := fun ρ h => (a ρ h).bind fun b h1 => .ok (!b) h1
theorem t_not {a : Expr} {ta : TM} {pos : Pos} (ha : PT X a (TrT F wx ta)) : PT X (.UnaryOp .Not a pos) (TrT F wx (tNotM ta)) :=
  PT.imp (pt_not ha) fun σ H Q ⟨W, ρ, hp, g, h⟩ => ⟨W, ρ, hp, g, Fin.bind h fun b hp' W' c H' x s r q => by
    cases r
    exact Fin.here q s rfl⟩
def tAndM (a b : TM) : TM := fun ρ h => (a ρ h).bind fun x h1 => if x = true then b ρ h1 else .ok false h1
def tOrM (a b : TM) : TM := fun ρ h => (a ρ h).bind fun x h1 => if x = true then .ok true h1 else b ρ h1
theorem PW.imp {X : Cx} {e : Expr} {t t' : TT} (h : PW X e t) (k : ∀ σ H Q, t' σ H Q → t σ H Q) : PW X e t' := ⟨fun wh p s σ H Q I q => h.run wh p s σ H Q I (k σ H Q q)⟩
theorem w_and {a b : Expr} {rest : List Expr} {ta tb : TM} {pos : Pos} (ha : PT X a (TrT F wx ta)) (hb : PW X (.BoolOp .And (b :: rest) pos) (TrT F wx tb)) : PW X (.BoolOp .And (a :: b :: rest) pos) (TrT F wx (tAndM ta tb)) :=
  PW.imp (pw_and ha hb) fun σ H Q ⟨W, ρ, hp, g, h⟩ => ⟨W, ρ, hp, g, Fin.bind h fun x hp' W' c H' e s r q => by
    cases r
    cases x with
    | true => rw [if_pos rfl] at q ⊢; exact ⟨W', ρ, hp', g.ext e s, q⟩
    | false => rw [if_neg Bool.false_ne_true] at q ⊢; exact Fin.here q s rfl⟩
theorem w_or {a b : Expr} {rest : List Expr} {ta tb : TM} {pos : Pos} (ha : PT X a (TrT F wx ta)) (hb : PW X (.BoolOp .Or (b :: rest) pos) (TrT F wx tb)) : PW X (.BoolOp .Or (a :: b :: rest) pos) (TrT F wx (tOrM ta tb)) :=
  PW.imp (pw_or ha hb) fun σ H Q ⟨W, ρ, hp, g, h⟩ => ⟨W, ρ, hp, g, Fin.bind h fun x hp' W' c H' e s r q => by
    cases r
    cases x with
    | true => rw [if_pos rfl] at q ⊢; exact Fin.here q s rfl
    | false => rw [if_neg Bool.false_ne_true] at q ⊢; exact ⟨W', ρ, hp', g.ext e s, q⟩⟩
/-! ### and, or, not, if-else as values (truth values) -/
def eAnd (a b : EM) : EM := fun ρ h => (a ρ h).bind fun x h1 => match x with
  | .bl true => b ρ h1
  | .bl false => .ok (.bl false) h1
  | _ => .bad
def eOr (a b : EM) : EM := fun ρ h => (a ρ h).bind fun x h1 => match x with
  | .bl true => .ok (.bl true) h1
  | .bl false => b ρ h1
  | _ => .bad
theorem e_and {a b : Expr} {rest : List Expr} {ea eb : EM} {pos : Pos} (ha : PE X a (TrE F wx ea)) (hb : PE X (.BoolOp .And (b :: rest) pos) (TrE F wx eb)) : PE X (.BoolOp .And (a :: b :: rest) pos) (TrE F wx (eAnd ea eb)) :=
  PE.imp (pe_and ha hb) fun σ H Q ⟨W, ρ, hp, g, h⟩ => ⟨W, ρ, hp, g, Fin.bind h fun x hp' W' c H' e s r q => by
    split at q
    · cases r
      exact ⟨true, rfl, by rw [if_pos rfl]; exact ⟨W', ρ, hp', g.ext e s, q⟩⟩
    · cases r
      exact ⟨false, rfl, by rw [if_neg Bool.false_ne_true]; exact Fin.here q s rfl⟩
    · exact q.elim⟩
theorem e_or {a b : Expr} {rest : List Expr} {ea eb : EM} {pos : Pos} (ha : PE X a (TrE F wx ea)) (hb : PE X (.BoolOp .Or (b :: rest) pos) (TrE F wx eb)) : PE X (.BoolOp .Or (a :: b :: rest) pos) (TrE F wx (eOr ea eb)) :=
  PE.imp (pe_or ha hb) fun σ H Q ⟨W, ρ, hp, g, h⟩ => ⟨W, ρ, hp, g, Fin.bind h fun x hp' W' c H' e s r q => by
    split at q
    · cases r
      exact ⟨true, rfl, by rw [if_pos rfl]; exact Fin.here q s rfl⟩
    · cases r
      exact ⟨false, rfl, by rw [if_neg Bool.false_ne_true]; exact ⟨W', ρ, hp', g.ext e s, q⟩⟩
    · exact q.elim⟩
def eNot (a : EM) : EM := fun ρ h => (a ρ h).bind fun x h1 => match x with
  | .bl b => .ok (.bl (!b)) h1
  | _ => .bad
theorem e_not {a : Expr} {ea : EM} {pos : Pos} (ha : PE X a (TrE F wx ea)) : PE X (.UnaryOp .Not a pos) (TrE F wx (eNot ea)) :=
  PE.imp (pe_not ha) fun σ H Q ⟨W, ρ, hp, g, h⟩ => ⟨W, ρ, hp, g, Fin.bind h fun x hp' W' c H' e s r q => by
    split at q
    · cases r
      exact ⟨_, rfl, Fin.here q s rfl⟩
    · exact q.elim⟩
def eIf (t : TM) (a b : EM) : EM := fun ρ h => (t ρ h).bind fun x h1 => if x = true then a ρ h1 else b ρ h1
theorem e_if {c a b : Expr} {t : TM} {ea eb : EM} {pos : Pos} (hc : PT X c (TrT F wx t)) (ha : PE X a (TrE F wx ea)) (hb : PE X b (TrE F wx eb)) : PE X (.IfExp c a b pos) (TrE F wx (eIf t ea eb)) :=
  PE.imp (pe_ifExp hc ha hb) fun σ H Q ⟨W, ρ, hp, g, h⟩ => ⟨W, ρ, hp, g, Fin.bind h fun x hp' W' c H' e s r q => by
    cases r
    cases x with
    | true => rw [if_pos rfl] at q ⊢; exact ⟨W', ρ, hp', g.ext e s, q⟩
    | false => rw [if_neg Bool.false_ne_true] at q ⊢; exact ⟨W', ρ, hp', g.ext e s, q⟩⟩
/-! ### a < b < c -/
def eChain (o1 o2 : D → D → Hc → R D) (a b c : EM) : EM := fun ρ h => (a ρ h).bind fun x h1 => (b ρ h1).bind fun y h2 => (o1 x y h2).bind fun z h3 => match z with
  | .bl true => (c ρ h3).bind fun w h4 => o2 y w h4
  | .bl false => .ok (.bl false) h3
  | _ => .bad
theorem chain_imp {op1 op2 : D → D → Hc → R D} {r1 r2 : R2} {ea eb ec : EM} (hs1 : OpS F (RepB F.G) (RepB F.G) op1 r1) (hs2 : OpS F (RepB F.G) (RepB F.G) op2 r2) {H : Hp} {Q : VK} {W : Wd} {ρ : Rho} {hp : Hc} (g : Gd F W ρ hp σ H)
    (h : Fin F wx σ (Rep F.G) W H Q (eChain op1 op2 ea eb ec ρ hp)) : tChain r1 r2 (TrB F wx ea) (TrB F wx eb) (TrB F wx ec) σ H Q := by
  refine ⟨W, ρ, hp, g, Fin.bind h fun d hp1 W1 v H1 x1 s1 r1' h1 => ⟨W1, ρ, hp1, g.ext x1 s1, Fin.bind h1 fun e hp2 W2 u H2 x2 s2 r2' h2 => ?_⟩⟩
  refine hs1 wx σ W2 H2 hp2 d e v u _ s2 (mono_repB _ _ _ _ _ _ x2 r1') r2' (Fin.bind h2 fun z hp3 W3 zv H3 x3 s3 r3 h3 => ?_)
  split at h3
  · cases r3
    refine ⟨true, rfl, ?_⟩
    rw [if_pos rfl]
    refine ⟨W3, ρ, hp3, ((g.ext x1 s1).ext x2 s2).ext x3 s3, Fin.bind h3 fun w hp4 W4 wv H4 x4 s4 r4 h4 => ?_⟩
    exact hs2 wx σ W4 H4 hp4 e w u wv _ s4 (mono_repB _ _ _ _ _ _ (x3.trans x4) r2') r4 h4
  · cases r3
    refine ⟨false, rfl, ?_⟩
    rw [if_neg Bool.false_ne_true]
    exact Fin.here h3 s3 rfl
  · exact h3.elim
theorem e_chain {op1 op2 : D → D → Hc → R D} {o1 o2 : CmpOp} {r1 r2 : R2} {a b c : Expr} {ea eb ec : EM} {pos : Pos} (ho1 : OpR X (compareOp o1) r1) (ho2 : OpR X (compareOp o2) r2) (hs1 : OpS F (RepB F.G) (RepB F.G) op1 r1) (hs2 : OpS F (RepB F.G) (RepB F.G) op2 r2)
    (ha : PE X a (TrB F wx ea)) (hb : PE X b (TrB F wx eb)) (hc : PE X c (TrB F wx ec)) (hm : lastMarks [o1, o2] [b, c] = false := by with_unfolding_all rfl) : PE X (.Compare a [o1, o2] [b, c] pos) (TrE F wx (eChain op1 op2 ea eb ec)) :=
  PE.imp (pe_chain ho1 ho2 ha hb hc hm) fun σ H Q ⟨W, ρ, hp, g, h⟩ => chain_imp hs1 hs2 g h
theorem t_chain {op1 op2 : D → D → Hc → R D} {o1 o2 : CmpOp} {r1 r2 : R2} {a b c : Expr} {ea eb ec : EM} {pos : Pos} (ho1 : OpR X (compareOp o1) r1) (ho2 : OpR X (compareOp o2) r2) (hs1 : OpS F (RepB F.G) (RepB F.G) op1 r1) (hs2 : OpS F (RepB F.G) (RepB F.G) op2 r2)
    (ha : PE X a (TrB F wx ea)) (hb : PE X b (TrB F wx eb)) (hc : PE X c (TrB F wx ec)) (hm : lastMarks [o1, o2] [b, c] = false := by with_unfolding_all rfl) : PT X (.Compare a [o1, o2] [b, c] pos) (TrT F wx (tB1 (eChain op1 op2 ea eb ec))) :=
  PT.imp (pt_chain ho1 ho2 ha hb hc hm) fun σ H Q ⟨W, ρ, hp, g, h⟩ => chain_imp hs1 hs2 g (Fin.bind h fun d hp' W' v H' x s r q => by
    split at q
    · cases r
      exact ⟨_, rfl, Fin.here q s rfl⟩
    · exact q.elim)
end
end Z

/-! Z6: subscripts, displays, calls of built-ins, texts -/
namespace Z
open PySem PySem.Spec PyProof.Rows L2

/-! data without lambdas -/
mutual
def D.nl : D → Bool
  | .non | .bl _ | .int _ | .str _ | .ref _ => true
  | .tup xs => nls xs
  | .lst xs => nls xs
  | .dic kvs => nlk kvs
  | .dit kvs => nlt kvs
  | _ => false
def nls : List D → Bool
  | [] => true
  | x :: xs => x.nl && nls xs
def nlk : List (K1 × D) → Bool
  | [] => true
  | (_, x) :: xs => x.nl && nlk xs
def nlt : List (List K1 × D) → Bool
  | [] => true
  | (_, x) :: xs => x.nl && nlt xs
end
section
variable {F : Fr} {X : Cx} {wx : WX} {σ : L2.St} {G : Gl} {W W' : Wd} {H H' : Hp} {hp : Hc}
/-! ### arguments -/
def RepsB (G : Gl) (W : Wd) (H : Hp) : List D → List V → Prop
  | [], vs => vs = []
  | d :: ds, vs => ∃ v r, vs = v :: r ∧ RepB G W H d v ∧ RepsB G W H ds r
theorem RepsB.ext (x : Ext W H W' H') : ∀ {ds : List D} {vs : List V}, RepsB G W H ds vs → RepsB G W' H' ds vs
  | [], _, h => h
  | d :: ds, _, ⟨v, r, e, h, t⟩ => ⟨v, r, e, RepB.ext x h, RepsB.ext x t⟩
def TrAB (F : Fr) (wx : WX) (am : AM) : TA := fun σ H Q => ∃ W ρ hp, Gd F W ρ hp σ H ∧ Fin F wx σ (RepsB F.G) W H Q (am ρ hp)
def aNil : AM := fun _ h => .ok [] h
def aCons (a : EM) (r : AM) : AM := fun ρ h => (a ρ h).bind fun x h1 => (r ρ h1).bind fun xs h2 => .ok (x :: xs) h2
theorem a_nil : PA X [] (TrA F wx aNil) := PA.imp pa_nil fun σ H Q ⟨W, ρ, hp, g, h⟩ => Fin.here h g.st rfl
theorem a_cons {e : Expr} {es : List Expr} {em : EM} {am : AM} (ha : PE X e (TrE F wx em)) (hr : PA X es (TrA F wx am)) (hs : starEach (e :: es) X.env = (false, eval e X.env) :: starEach es X.env := by rfl) : PA X (e :: es) (TrA F wx (aCons em am)) :=
  PA.imp (pa_cons ha hr hs) fun σ H Q ⟨W, ρ, hp, g, h⟩ => ⟨W, ρ, hp, g, Fin.bind h fun d hp1 W1 v H1 x1 s1 r1 h1 => ⟨W1, ρ, hp1, g.ext x1 s1, Fin.bind h1 fun ds hp2 W2 vs H2 x2 s2 r2 h2 =>
    Fin.here h2 s2 ⟨v, vs, rfl, r1.ext x2.toLk, r2⟩⟩⟩
theorem ab_nil : PA X [] (TrAB F wx aNil) := PA.imp pa_nil fun σ H Q ⟨W, ρ, hp, g, h⟩ => Fin.here h g.st rfl
theorem ab_cons {e : Expr} {es : List Expr} {em : EM} {am : AM} (ha : PE X e (TrB F wx em)) (hr : PA X es (TrAB F wx am)) (hs : starEach (e :: es) X.env = (false, eval e X.env) :: starEach es X.env := by rfl) : PA X (e :: es) (TrAB F wx (aCons em am)) :=
  PA.imp (pa_cons ha hr hs) fun σ H Q ⟨W, ρ, hp, g, h⟩ => ⟨W, ρ, hp, g, Fin.bind h fun d hp1 W1 v H1 x1 s1 r1 h1 => ⟨W1, ρ, hp1, g.ext x1 s1, Fin.bind h1 fun ds hp2 W2 vs H2 x2 s2 r2 h2 =>
    Fin.here h2 s2 ⟨v, vs, rfl, r1.ext x2, r2⟩⟩⟩
/-! ### a new list or dict that nothing else holds -/
def RepN (G : Gl) (Hs : Hp) (W : Wd) (H : Hp) : D → V → Prop
  | .lst ds, v => ∃ a vs, v = .ref a ∧ H a = some (.lst vs) ∧ Reps G W H ds vs ∧ Hs a = none ∧ ¬ W.fz a ∧ ∀ n, W.m n ≠ some a
  | .dic ds, v => ∃ a vs, v = .ref a ∧ H a = some (.dK vs) ∧ RepK G W H ds vs ∧ Hs a = none ∧ ¬ W.fz a ∧ ∀ n, W.m n ≠ some a
  | .dit ds, v => ∃ a vs, v = .ref a ∧ H a = some (.dT vs) ∧ RepT G W H ds vs ∧ Hs a = none ∧ ¬ W.fz a ∧ ∀ n, W.m n ≠ some a
  | _, _ => False
def TrN (F : Fr) (wx : WX) (em : EM) : TE := fun σ H Q => ∃ W ρ hp, Gd F W ρ hp σ H ∧ Fin F wx σ (RepN F.G H) W H Q (em ρ hp)
theorem st_freeze {p : Addr} (s : St0 G W H hp) (e : H p ≠ none) (hm : ∀ n, W.m n ≠ some p) : St0 G (W.fzA p) H hp where
  cells := fun n c h => by
    obtain ⟨a, ha, r⟩ := s.cells n c h
    exact ⟨a, ha, CellRep.ext (W := W.nl) (W' := (W.fzA p).nl) (H' := H) ⟨fun _ _ h => h, fun _ h => Or.inl h, fun _ _ h => h, fun _ _ _ e _ => e⟩ rfl r⟩
  dom := s.dom
  inj := s.inj
  nfz := fun n a h z => z.elim (s.nfz n a h) fun q => hm n (by rw [← q]; exact h)
  ft := fun a h => h.elim (s.ft a) fun z => by rw [z]; exact e
  tl := s.tl
  tb := s.tb
theorem ext_freeze {p : Addr} {Hs : Hp} (x : Ext W' Hs W H) (e : Hs p = none) : Ext W' Hs (W.fzA p) H :=
  ⟨⟨x.m, fun a h => .inl (x.f a h), x.l, x.fk⟩, x.k, x.t, fun a h => h.elim (x.nf a) fun z => .inr (by rw [z]; exact e), x.nm⟩
theorem lk_freeze {p : Addr} : Lk W H (W.fzA p) H := ⟨fun _ _ h => h, fun _ h => .inl h, fun _ _ h => h, fun _ _ _ e _ => e⟩
theorem Fin.freeze {Hs : Hp} {Q : VK} {r : R D} {W0 : Wd} (h : Fin F wx σ (Rep F.G) W0 Hs Q r) : Fin F wx σ (RepN F.G Hs) W0 Hs Q r := by
  cases r with
  | ok d hp' =>
    intro W' v H' x s rn
    cases d with
    | lst ds =>
      obtain ⟨a, vs, rfl, e, r, n0, nf, nm⟩ := rn
      exact h _ _ _ (ext_freeze x n0) (st_freeze s (by rw [e]; simp) nm) ⟨a, vs, rfl, ⟨.inr rfl, e⟩, r.ext lk_freeze⟩
    | dic ds =>
      obtain ⟨a, vs, rfl, e, r, n0, nf, nm⟩ := rn
      exact h _ _ _ (ext_freeze x n0) (st_freeze s (by rw [e]; simp) nm) ⟨a, vs, rfl, ⟨.inr rfl, e⟩, r.ext lk_freeze⟩
    | dit ds =>
      obtain ⟨a, vs, rfl, e, r, n0, nf, nm⟩ := rn
      exact h _ _ _ (ext_freeze x n0) (st_freeze s (by rw [e]; simp) nm) ⟨a, vs, rfl, ⟨.inr rfl, e⟩, r.ext lk_freeze⟩
    | _ => exact rn.elim
  | ex c hp' => exact h
  | bad => exact h
/-- .. as a value that stays -/
theorem n_e {e : Expr} {em : EM} (h : PE X e (TrN F wx em)) : PE X e (TrE F wx em) := PE.imp h fun σ H Q ⟨W, ρ, hp, g, q⟩ => ⟨W, ρ, hp, g, Fin.freeze q⟩
/-- .. in a box -/
def eBox (em : EM) : EM := fun ρ h => (em ρ h).bind fun d h1 => if d.nl then .ok (.ref h1.length) (h1 ++ [.box d]) else .bad
theorem st_mbox {p : Addr} {c : Cell} (s : St0 G W H hp) (e : H p ≠ none) (hm : ∀ n, W.m n ≠ some p) (hf : ¬ W.fz p) (hc : CellRep G (W.box hp.length p).nl H p c) : St0 G (W.box hp.length p) H (hp ++ [c]) where
  cells := fun n c' h => by
    have lk : Lk W.nl H (W.box hp.length p).nl H := ⟨fun n a h => by
      show (if n = hp.length then some p else W.m n) = some a
      rw [if_neg (Nat.ne_of_lt (s.dom n a h))]
      exact h, fun _ h => h, fun _ _ h => h, fun _ _ _ e _ => e⟩
    by_cases hn : n < hp.length
    · rw [List.getElem?_append_left hn] at h
      obtain ⟨a, ha, r⟩ := s.cells n c' h
      exact ⟨a, lk.m n a ha, r.ext lk rfl⟩
    · rw [List.getElem?_append_right (Nat.le_of_not_lt hn)] at h
      have hz : n - hp.length = 0 := by
        have h1 := (List.getElem?_eq_some_iff.mp h).1
        simp at h1
        omega
      rw [hz] at h
      cases h
      have en : n = hp.length := by omega
      subst en
      exact ⟨p, by show (if hp.length = hp.length then some p else W.m hp.length) = some p; rw [if_pos rfl], hc⟩
  dom := fun n a h => by
    have h : (if n = hp.length then some p else W.m n) = some a := h
    rw [List.length_append, List.length_singleton]
    split at h
    · omega
    · have := s.dom n a h
      omega
  inj := fun n k a h1 h2 => by
    have h1 : (if n = hp.length then some p else W.m n) = some a := h1
    have h2 : (if k = hp.length then some p else W.m k) = some a := h2
    split at h1
    · split at h2
      · omega
      · cases h1; exact absurd h2 (hm k)
    · split at h2
      · cases h2; exact absurd h1 (hm n)
      · exact s.inj n k a h1 h2
  nfz := fun n a h => by
    have h : (if n = hp.length then some p else W.m n) = some a := h
    split at h
    · cases h; exact hf
    · exact s.nfz n a h
  ft := s.ft
  tl := s.tl
  tb := s.tb
theorem ext_mbox {p : Addr} {Hs : Hp} {n : Nat} (x : Ext W' Hs W H) (e : Hs p = none) (dom : ∀ k a, W.m k = some a → k < n) : Ext W' Hs (W.box n p) H :=
  ⟨⟨fun k a h => by
    show (if k = n then some p else W.m k) = some a
    rw [if_neg (Nat.ne_of_lt (dom k a (x.m k a h)))]
    exact x.m k a h, x.f, x.l, x.fk⟩, x.k, x.t, x.nf, fun k a h => by
    have h : (if k = n then some p else W.m k) = some a := h
    split at h
    · cases h; exact .inr e
    · exact x.nm k a h⟩
theorem lk_mbox {p : Addr} {n : Nat} (dom : ∀ k a, W.m k = some a → k < n) : Lk W H (W.box n p) H := ⟨fun k a h => by
    show (if k = n then some p else W.m k) = some a
    rw [if_neg (Nat.ne_of_lt (dom k a h))]
    exact h, fun _ h => h, fun _ _ h => h, fun _ _ _ e _ => e⟩
mutual
theorem Rep.nl : ∀ {d : D} {v : V}, d.nl = true → Rep G W H d v → Rep G W.nl H d v
  | .non, _, _, h => h
  | .bl _, _, _, h => h
  | .int _, _, _, h => h
  | .str _, _, _, h => h
  | .ref _, _, _, h => h
  | .tup ds, _, n, ⟨a, vs, e, t, r⟩ => ⟨a, vs, e, t, Reps.nl (by simpa [D.nl] using n) r⟩
  | .lst ds, _, n, ⟨a, vs, e, t, r⟩ => ⟨a, vs, e, t, Reps.nl (by simpa [D.nl] using n) r⟩
  | .dic ds, _, n, ⟨a, vs, e, t, r⟩ => ⟨a, vs, e, t, RepK.nl (by simpa [D.nl] using n) r⟩
  | .dit ds, _, n, ⟨a, vs, e, t, r⟩ => ⟨a, vs, e, t, RepT.nl (by simpa [D.nl] using n) r⟩
  | .lam _, _, n, _ => by simp [D.nl] at n
  | .scr _, _, n, _ => by simp [D.nl] at n
theorem Reps.nl : ∀ {ds : List D} {vs : List V}, nls ds = true → Reps G W H ds vs → Reps G W.nl H ds vs
  | [], _, _, h => h
  | d :: ds, _, n, ⟨v, r, e, h, t⟩ => by
    simp only [nls, Bool.and_eq_true] at n
    exact ⟨v, r, e, Rep.nl n.1 h, Reps.nl n.2 t⟩
theorem RepK.nl : ∀ {ds : List (K1 × D)} {vs : List (Key × V)}, nlk ds = true → RepK G W H ds vs → RepK G W.nl H ds vs
  | [], _, _, h => h
  | (k, d) :: ds, _, n, ⟨v, r, e, h, t⟩ => by
    simp only [nlk, Bool.and_eq_true] at n
    exact ⟨v, r, e, Rep.nl n.1 h, RepK.nl n.2 t⟩
theorem RepT.nl : ∀ {ds : List (List K1 × D)} {vs : List (List Key × V)}, nlt ds = true → RepT G W H ds vs → RepT G W.nl H ds vs
  | [], _, _, h => h
  | (k, d) :: ds, _, n, ⟨v, r, e, h, t⟩ => by
    simp only [nlt, Bool.and_eq_true] at n
    exact ⟨v, r, e, Rep.nl n.1 h, RepT.nl n.2 t⟩
end
theorem Fin.box {Hs : Hp} {Q : VK} {d : D} {hp' : Hc} {W0 : Wd} (h : Fin F wx σ (Rep F.G) W0 Hs Q (if d.nl then .ok (.ref hp'.length) (hp' ++ [.box d]) else .bad)) : Fin F wx σ (RepN F.G Hs) W0 Hs Q (.ok d hp') := by
  split at h
  · rename_i hn
    intro W' v H' x s rn
    have fin : ∀ a, v = .ref a → Hs a = none → H' a ≠ none → ¬ W'.fz a → (∀ n, W'.m n ≠ some a) → CellRep F.G (W'.box hp'.length a).nl H' a (.box d) → Q v H' := fun a ev n0 ne nf nm cr => by
      subst ev
      exact h _ _ H' (ext_mbox x n0 s.dom) (st_mbox s ne nm nf cr) ⟨a, rfl, by show (if hp'.length = hp'.length then some a else W'.m hp'.length) = some a; rw [if_pos rfl]⟩
    cases d with
    | lst ds =>
      obtain ⟨a, vs, ev, e, r, n0, nf, nm⟩ := rn
      exact fin a ev n0 (by rw [e]; simp) nf nm ⟨vs, e, (r.nl (by simpa [D.nl] using hn)).ext (lk_mbox s.dom).nl⟩
    | dic ds =>
      obtain ⟨a, vs, ev, e, r, n0, nf, nm⟩ := rn
      exact fin a ev n0 (by rw [e]; simp) nf nm ⟨vs, e, (r.nl (by simpa [D.nl] using hn)).ext (lk_mbox s.dom).nl⟩
    | dit ds =>
      obtain ⟨a, vs, ev, e, r, n0, nf, nm⟩ := rn
      exact fin a ev n0 (by rw [e]; simp) nf nm ⟨vs, e, (r.nl (by simpa [D.nl] using hn)).ext (lk_mbox s.dom).nl⟩
    | _ => exact rn.elim
  · exact h.elim
theorem n_box {e : Expr} {em : EM} (h : PE X e (TrN F wx em)) : PE X e (TrE F wx (eBox em)) := PE.imp h fun σ H Q ⟨W, ρ, hp, g, q⟩ => ⟨W, ρ, hp, g, by
  unfold eBox at q
  revert q
  cases em ρ hp with
  | ok d hp' => exact fun q => Fin.box q
  | ex c hp' => exact fun q => q
  | bad => exact fun q => q⟩
/-! ### displays -/
def eTup (am : AM) : EM := fun ρ h => (am ρ h).bind fun ds h1 => if ds.length ≤ 16777216 then .ok (.tup ds) h1 else .bad
def eLst (am : AM) : EM := fun ρ h => (am ρ h).bind fun ds h1 => if ds.length ≤ 16777216 then .ok (.lst ds) h1 else .bad
theorem e_tup {es : List Expr} {am : AM} {k : Nat} {pos : Pos} (h : PA X es (TrA F wx am)) : PE X (.Tuple es k pos) (TrE F wx (eTup am)) :=
  PE.imp (pe_tup h) fun σ H Q ⟨W, ρ, hp, g, h⟩ => ⟨W, ρ, hp, g, Fin.bind h fun ds hp1 W1 vs H1 x1 s1 r1 h1 => by
    split at h1
    · rename_i hl
      exact ⟨by rw [← r1.length]; exact lim_ok hl, fun p hp0 => Fin.mkTup s1 hp0 r1 h1⟩
    · exact h1.elim⟩
/-- a new list at p, seen from Hs -/
theorem Fin.newLst {Hs : Hp} {W0 : Wd} {p : Addr} {ds : List D} {vs : List V} {Q : VK} {hp' : Hc} (x : Ext W0 Hs W H) (s : St0 F.G W H hp') (hp0 : H p = none) (r : Reps F.G W H ds vs) (h : Fin F wx σ (RepN F.G Hs) W0 Hs Q (.ok (.lst ds) hp')) : Q (.ref p) (upd H p (.lst vs)) :=
  h W _ _ (x.trans (ext_own s hp0)) (st_own s hp0) ⟨p, vs, rfl, upd_same, r.ext (ext_own s hp0).toLk, Classical.byContradiction fun q => x.t p q hp0, fun z => s.ft p z hp0, fun n z => s.mt z hp0⟩
/-- as Fin.bind, the start kept -/
theorem Fin.bindN {α β α' β' : Type} {rel : Wd → Hp → α → β → Prop} {rel' : Wd → Hp → α' → β' → Prop} {Q : β → Hp → Prop} {Q' : β' → Hp → Prop} {r : R α} {k : α → Hc → R α'} (h : Fin F wx σ rel' W H Q' (r.bind k))
    (nx : ∀ d hp' W' v H', Ext W H W' H' → St0 F.G W' H' hp' → rel W' H' d v → Fin F wx σ rel' W H Q' (k d hp') → Q v H') : Fin F wx σ rel W H Q r := by
  cases r with
  | ok d hp => exact fun W2 v H2 x2 s2 r2 => nx d hp W2 v H2 x2 s2 r2 h
  | ex c hp => exact h
  | bad => exact h
theorem n_lst {es : List Expr} {am : AM} {pos : Pos} (h : PA X es (TrA F wx am)) : PE X (.List es pos) (TrN F wx (eLst am)) :=
  PE.imp (pe_lst h) fun σ H Q ⟨W, ρ, hp, g, h⟩ => ⟨W, ρ, hp, g, Fin.bindN h fun ds hp1 W1 vs H1 x1 s1 r1 h1 => by
    split at h1
    · rename_i hl
      exact ⟨by rw [← r1.length]; exact lim_ok hl, fun p hp0 => Fin.newLst x1 s1 hp0 r1 h1⟩
    · exact h1.elim⟩
/-! ### a[i] -/
def opIx (x y : D) (h : Hc) : R D := match unbox h x, y with
  | .lst ds, .int i => (match atI ds i with | some d => .ok d h | none => .bad)
  | .tup ds, .int i => (match atI ds i with | some d => .ok d h | none => .bad)
  | .str s, .int i => if s.length ≤ 16777216 then (match atI s i with | some c => .ok (.str [c]) h | none => .bad) else .bad
  | _, _ => .bad
theorem atI_rep {ds : List D} {vs : List V} {i : Int} {d : D} (r : Reps G W H ds vs) (e : atI ds i = some d) : ∃ v, atI vs i = some v ∧ Rep G W H d v := by
  unfold atI at e ⊢
  rw [r.length] at e
  cases h : ixN vs.length i with
  | none => rw [h] at e; cases e
  | some j =>
    rw [h] at e
    obtain ⟨v, h1, h2⟩ := r.get (show ds[j]? = some d from e)
    exact ⟨v, h1, h2⟩
theorem okS_at {s : List Nat} {i : Int} {c : Nat} (o : okS s) (e : atI s i = some c) : okS [c] := by
  unfold atI at e
  cases h : ixN s.length i with
  | none => rw [h] at e; cases e
  | some j =>
    rw [h] at e
    have hm := List.mem_of_getElem? (show s[j]? = some c from e)
    have q := List.all_eq_true.mp o c hm
    show ([c].all fun c => decide (c < 0x110000)) = true
    simp only [List.all_cons, List.all_nil, Bool.and_true]
    exact q
theorem s_ix (hK : F.G.K = X.K) : OpS F (RepB F.G) (RepB F.G) opIx (rIx X.K) := by
  intro wx σ W H hp x y v u Q s rx ry h
  have ux := unbox_rep s rx
  unfold opIx at h
  split at h
  · rename_i ds i e1
    rw [e1] at ux
    cases ry
    obtain ⟨p, vs, ep, tp, rp⟩ := ux
    split at h
    · rename_i d e3
      obtain ⟨v2, h1, h2⟩ := atI_rep rp e3
      exact .inl ⟨p, vs, i, v2, ep, rfl, SqL.of tp, h1, Fin.here h s h2⟩
    · exact h.elim
  · rename_i ds i e1
    rw [e1] at ux
    cases ry
    obtain ⟨p, vs, ep, tp, rp⟩ := ux
    split at h
    · rename_i d e3
      obtain ⟨v2, h1, h2⟩ := atI_rep rp e3
      exact .inr (.inl ⟨p, vs, i, v2, ep, rfl, hK ▸ tp.sq, h1, Fin.here h s h2⟩)
    · exact h.elim
  · rename_i z i e1
    rw [e1] at ux
    cases ry
    obtain ⟨rfl, o⟩ := ux
    split at h
    · rename_i hl
      split at h
      · rename_i c e3
        exact .inr (.inr ⟨_, i, c, rfl, rfl, by rw [str_len]; exact lim_ok hl, e3, Fin.here h s ⟨rfl, okS_at o e3⟩⟩)
      · exact h.elim
    · exact h.elim
  · exact h.elim
theorem e_ix {a b : Expr} {ea eb : EM} {pos : Pos} (hK : F.G.K = X.K) (ha : PE X a (TrB F wx ea)) (hb : PE X b (TrE F wx eb)) (hs : PlainIx b := by exact fun _ _ => rfl) : PE X (.Subscript a b pos) (TrE F wx (eBin opIx ea eb)) :=
  PE.imp (pe_ix ix_seq ha (toB hb) hs) fun σ H Q ⟨W, ρ, hp, g, h⟩ => ⟨W, ρ, hp, g, bin_imp mono_repB (s_ix hK) g h⟩
/-! ### a[lo:hi] -/
abbrev PM := Rho → Hc → R (Option Int)
def TrP (F : Fr) (wx : WX) (pm : PM) : TO := fun σ H Q => ∃ W ρ hp, Gd F W ρ hp σ H ∧ Fin F wx σ (fun _ _ o o' => o = o') W H Q (pm ρ hp)
def pNo : PM := fun _ h => .ok none h
def pAt (a : EM) : PM := fun ρ h => (a ρ h).bind fun x h1 => match x with
  | .int i => .ok (some i) h1
  | _ => .bad
theorem PO.imp {e : Option Expr} {t t' : TO} (h : PO X e t) (k : ∀ σ H Q, t' σ H Q → t σ H Q) : PO X e t' := ⟨fun p s σ H Q I q => h.run p s σ H Q I (k σ H Q q)⟩
theorem p_no : PO X none (TrP F wx pNo) := PO.imp po_none fun σ H Q ⟨W, ρ, hp, g, h⟩ => Fin.here h g.st rfl
theorem p_at {e : Expr} {em : EM} (h : PE X e (TrE F wx em)) : PO X (some e) (TrP F wx (pAt em)) := PO.imp (po_some h) fun σ H Q ⟨W, ρ, hp, g, h⟩ => ⟨W, ρ, hp, g, Fin.bind h fun d hp1 W1 v H1 x1 s1 r1 h1 => by
  split at h1
  · cases r1
    exact ⟨_, rfl, Fin.here h1 s1 rfl⟩
  · exact h1.elim⟩
/-- what a slice takes -/
def cutL {α : Type} (xs : List α) (lo hi : Option Int) : List α := (xs.drop (HT.sIx xs.length 0 lo)).take (HT.sIx xs.length xs.length hi - HT.sIx xs.length 0 lo)
def slOp (x : D) (lo hi : Option Int) (h : Hc) : R D := match unbox h x with
  | .lst ds => .ok (.lst (cutL ds lo hi)) h
  | .scr ds => .ok (.lst (cutL ds lo hi)) h
  | .tup ds => .ok (.tup (cutL ds lo hi)) h
  | .str s => if s.length ≤ 16777216 then .ok (.str (cutL s lo hi)) h else .bad
  | _ => .bad
def eSl (a : EM) (lo hi : PM) : EM := fun ρ h => (a ρ h).bind fun x h1 => (lo ρ h1).bind fun l h2 => (hi ρ h2).bind fun u h3 => slOp x l u h3
def rSl (K : PySem.W.Frag) : V → Option Int → Option Int → Hp → VK → Prop := fun x lo hi H Q => rSlL K x lo hi H Q ∨ rSlA K x lo hi H Q ∨ rSlS x lo hi H Q
theorem sl_all : SlR X (rSl X.K) := sl_list.or (sl_tupA.or sl_str)
theorem Reps.cut {ds : List D} {vs : List V} (r : Reps G W H ds vs) (lo hi : Option Int) : Reps G W H (cutL ds lo hi) (cutV vs lo hi) := by
  unfold cutL cutV
  rw [r.length]
  exact (r.drop _).take _
theorem okS_sub {a b : List Nat} (h : okS a) (k : ∀ c ∈ b, c ∈ a) : okS b := List.all_eq_true.mpr fun c hc => List.all_eq_true.mp h c (k c hc)
theorem okS_cut {a : List Nat} (h : okS a) (lo hi : Option Int) : okS (cutL a lo hi) := okS_sub h fun c hc => List.mem_of_mem_drop (List.mem_of_mem_take hc)
theorem cut_whole {α : Type} {xs : List α} {lo hi : Option Int} (h : HT.sIx xs.length 0 lo = 0 ∧ HT.sIx xs.length xs.length hi = xs.length) : cutL xs lo hi = xs := by
  unfold cutL
  rw [h.1, h.2, List.drop_zero, Nat.sub_zero, List.take_length]
theorem sl_imp {x : D} {v : V} {lo hi : Option Int} {Q : VK} (hK : F.G.K = X.K) (s : St0 F.G W H hp) (rx : RepB F.G W H x v) (h : Fin F wx σ (Rep F.G) W H Q (slOp x lo hi hp)) : rSl X.K v lo hi H Q := by
  have ux := unbox_rep s rx
  unfold slOp at h
  split at h
  · rename_i ds e1
    rw [e1] at ux
    obtain ⟨p, vs, ep, tp, rp⟩ := ux
    exact .inl ⟨p, vs, ep, SqL.of tp, fun q hq => Fin.mkLst s hq (rp.cut lo hi) h⟩
  · rename_i ds e1
    rw [e1] at ux
    obtain ⟨p, vs, ep, tp, rp⟩ := ux
    have sq : SqL F.G.K H p vs := tp.elim (fun z => .inl z.2) .inr
    exact .inl ⟨p, vs, ep, hK ▸ sq, fun q hq => Fin.mkLst s hq (rp.cut lo hi) h⟩
  · rename_i ds e1
    rw [e1] at ux
    obtain ⟨p, vs, ep, tp, rp⟩ := ux
    refine .inr (.inl ⟨p, vs, ep, hK ▸ tp.sq, fun z => ?_, fun _ q hq => Fin.mkTup s hq (rp.cut lo hi) h⟩)
    rw [← rp.length] at z
    rw [cut_whole z] at h
    exact Fin.here h s ⟨p, vs, rfl, tp, rp⟩
  · rename_i z e1
    rw [e1] at ux
    obtain ⟨rfl, o⟩ := ux
    split at h
    · rename_i hl
      refine .inr (.inr ⟨_, rfl, by rw [str_len]; exact lim_ok hl, ?_⟩)
      have e : cutS ⟨z.toArray⟩ lo hi = ⟨(cutL z lo hi).toArray⟩ := by
        unfold cutS cutL
        rw [str_len]
      rw [e]
      exact Fin.here h s ⟨rfl, okS_cut o lo hi⟩
    · exact h.elim
  · exact h.elim
theorem e_sl {a : Expr} {lo hi : Option Expr} {ea : EM} {pl ph : PM} {p2 pos : Pos} (hK : F.G.K = X.K) (ha : PE X a (TrB F wx ea)) (hl : PO X lo (TrP F wx pl)) (hh : PO X hi (TrP F wx ph)) : PE X (.Subscript a (.Slice lo hi none p2) pos) (TrE F wx (eSl ea pl ph)) :=
  PE.imp (pe_slice sl_all ha hl hh) fun σ H Q ⟨W, ρ, hp, g, h⟩ => ⟨W, ρ, hp, g, Fin.bind h fun d hp1 W1 v H1 x1 s1 r1 h1 => ⟨W1, ρ, hp1, g.ext x1 s1, Fin.bind h1 fun l hp2 W2 l' H2 x2 s2 r2 h2 => by
    cases r2
    refine ⟨W2, ρ, hp2, (g.ext x1 s1).ext x2 s2, Fin.bind h2 fun u hp3 W3 u' H3 x3 s3 r3 h3 => ?_⟩
    cases r3
    exact sl_imp hK s3 (r1.ext (x2.trans x3)) h3⟩⟩
end
end Z

/-! Z7: calls of built-ins, texts -/
namespace Z
open PySem PySem.Spec PyProof.Rows L2

section
variable {F : Fr} {X : Cx} {wx : WX} {σ : L2.St} {G : Gl} {W W' : Wd} {H H' : Hp} {hp : Hc}
/-- what a built-in does with data -/
abbrev BM := List D → Hc → R D
def BiS (F : Fr) (b : BM) (r : List V → Hp → VK → Prop) : Prop :=
  ∀ (wx : WX) (σ : L2.St) (W : Wd) (H : Hp) (hp : Hc) (xs : List D) (vs : List V) (Q : VK), St0 F.G W H hp → RepsB F.G W H xs vs → Fin F wx σ (Rep F.G) W H Q (b xs hp) → r vs H Q
def BiN (F : Fr) (b : BM) (r : List V → Hp → VK → Prop) : Prop :=
  ∀ (wx : WX) (σ : L2.St) (W0 : Wd) (H0 : Hp) (W : Wd) (H : Hp) (hp : Hc) (xs : List D) (vs : List V) (Q : VK), Ext W0 H0 W H → St0 F.G W H hp → RepsB F.G W H xs vs → Fin F wx σ (RepN F.G H0) W0 H0 Q (b xs hp) → r vs H Q
def eBi (b : BM) (am : AM) : EM := fun ρ h => (am ρ h).bind fun xs h1 => b xs h1
theorem bi_imp {b : BM} {r : List V → Hp → VK → Prop} {am : AM} (hs : BiS F b r) {Q : VK} {ρ : Rho} (g : Gd F W ρ hp σ H) (h : Fin F wx σ (Rep F.G) W H Q (eBi b am ρ hp)) : tCB r (TrAB F wx am) σ H Q :=
  ⟨W, ρ, hp, g, Fin.bind h fun xs hp1 W1 vs H1 x1 s1 r1 h1 => hs wx σ W1 H1 hp1 xs vs Q s1 r1 h1⟩
theorem bn_imp {b : BM} {r : List V → Hp → VK → Prop} {am : AM} (hs : BiN F b r) {Q : VK} {ρ : Rho} (g : Gd F W ρ hp σ H) (h : Fin F wx σ (RepN F.G H) W H Q (eBi b am ρ hp)) : tCB r (TrAB F wx am) σ H Q :=
  ⟨W, ρ, hp, g, Fin.bindN h fun xs hp1 W1 vs H1 x1 s1 r1 h1 => hs wx σ W H W1 H1 hp1 xs vs Q x1 s1 r1 h1⟩
section
variable {id T : String} {b : BM} {r : List V → Hp → VK → Prop} {x : Str} {p pos : Pos} {e : Expr} {es : List Expr} {am : AM}
theorem e_bi (hc : CallR X (.builtin id) r) (hs : BiS F b r) (hm : X.mg x = none) (hv : bootBuiltins x = some (.builtin id)) (ha : PA X (e :: es) (TrAB F wx am)) (hg : L2.Gl X x := by rfl) (hn : x ≠ "__name__" := by decide) (hdb : (x == ("__debug__" : Str)) = false := by decide)
    (he : starEach (e :: es) X.env = (false, eval e X.env) :: starEach es X.env := by rfl) (hpl : (backTo pos (starEach es X.env)).any (·.1) = false := by rfl) : PE X (.Call (.Name x p) (e :: es) [] pos) (TrE F wx (eBi b am)) :=
  PE.imp (pe_callB hc hg hm hv ha hn hdb he hpl) fun σ H Q ⟨W, ρ, hp, g, h⟩ => bi_imp hs g h
theorem e_biT (hc : CallR X (.type T) r) (hs : BiS F b r) (hm : X.mg x = none) (hv : bootBuiltins x = some (.type T)) (ha : PA X (e :: es) (TrAB F wx am)) (hg : L2.Gl X x := by rfl) (hn : x ≠ "__name__" := by decide) (hdb : (x == ("__debug__" : Str)) = false := by decide)
    (he : starEach (e :: es) X.env = (false, eval e X.env) :: starEach es X.env := by rfl) (hpl : (backTo pos (starEach es X.env)).any (·.1) = false := by rfl) : PE X (.Call (.Name x p) (e :: es) [] pos) (TrE F wx (eBi b am)) :=
  PE.imp (pe_callTy hc hg hm hv ha hn hdb he hpl) fun σ H Q ⟨W, ρ, hp, g, h⟩ => bi_imp hs g h
theorem n_bi (hc : CallR X (.builtin id) r) (hs : BiN F b r) (hm : X.mg x = none) (hv : bootBuiltins x = some (.builtin id)) (ha : PA X (e :: es) (TrAB F wx am)) (hg : L2.Gl X x := by rfl) (hn : x ≠ "__name__" := by decide) (hdb : (x == ("__debug__" : Str)) = false := by decide)
    (he : starEach (e :: es) X.env = (false, eval e X.env) :: starEach es X.env := by rfl) (hpl : (backTo pos (starEach es X.env)).any (·.1) = false := by rfl) : PE X (.Call (.Name x p) (e :: es) [] pos) (TrN F wx (eBi b am)) :=
  PE.imp (pe_callB hc hg hm hv ha hn hdb he hpl) fun σ H Q ⟨W, ρ, hp, g, h⟩ => bn_imp hs g h
theorem n_biT (hc : CallR X (.type T) r) (hs : BiN F b r) (hm : X.mg x = none) (hv : bootBuiltins x = some (.type T)) (ha : PA X (e :: es) (TrAB F wx am)) (hg : L2.Gl X x := by rfl) (hn : x ≠ "__name__" := by decide) (hdb : (x == ("__debug__" : Str)) = false := by decide)
    (he : starEach (e :: es) X.env = (false, eval e X.env) :: starEach es X.env := by rfl) (hpl : (backTo pos (starEach es X.env)).any (·.1) = false := by rfl) : PE X (.Call (.Name x p) (e :: es) [] pos) (TrN F wx (eBi b am)) :=
  PE.imp (pe_callTy hc hg hm hv ha hn hdb he hpl) fun σ H Q ⟨W, ρ, hp, g, h⟩ => bn_imp hs g h
end
theorem repsB1 {d : D} {vs : List V} (r : RepsB G W H [d] vs) : ∃ v, vs = [v] ∧ RepB G W H d v := by
  obtain ⟨v, r, e, h, t⟩ := r
  cases t
  exact ⟨v, e, h⟩
theorem repsB2 {d d2 : D} {vs : List V} (r : RepsB G W H [d, d2] vs) : ∃ v v2, vs = [v, v2] ∧ RepB G W H d v ∧ RepB G W H d2 v2 := by
  obtain ⟨v, r, e, h, v2, r2, e2, h2, t⟩ := r
  cases t
  subst e2
  exact ⟨v, v2, e, h, h2⟩
/-! ### len -/
def bLen : BM := fun xs h => match xs with
  | [x] => (match unbox h x with
    | .lst ds => .ok (.int ds.length) h
    | .tup ds => .ok (.int ds.length) h
    | .str s => if s.length ≤ 16777216 then .ok (.int s.length) h else .bad
    | _ => .bad)
  | _ => .bad
theorem s_len (hK : F.G.K = X.K) : BiS F bLen (fun xs H Q => ∃ x n, xs = [x] ∧ LenV X.K x H n ∧ Q (.int n) H) := by
  intro wx σ W H hp xs vs Q s r h
  unfold bLen at h
  split at h
  · rename_i x
    obtain ⟨v, rfl, r1⟩ := repsB1 r
    have ux := unbox_rep s r1
    split at h
    · rename_i ds e1
      rw [e1] at ux
      obtain ⟨p, vs, rfl, tp, rp⟩ := ux
      refine ⟨_, ds.length, rfl, .inl ⟨vs, SqL.of tp, rp.length⟩, Fin.here h s rfl⟩
    · rename_i ds e1
      rw [e1] at ux
      obtain ⟨p, vs, rfl, tp, rp⟩ := ux
      refine ⟨_, ds.length, rfl, .inr ⟨vs, hK ▸ tp.sq, rp.length⟩, Fin.here h s rfl⟩
    · rename_i z e1
      rw [e1] at ux
      obtain ⟨rfl, o⟩ := ux
      split at h
      · rename_i hl
        exact ⟨_, z.length, rfl, ⟨by rw [str_len]; exact lim_ok hl, (str_len z).symm⟩, Fin.here h s rfl⟩
      · exact h.elim
    · exact h.elim
  · exact h.elim
/-! ### int, abs -/
def bInt : BM := fun xs h => match xs with
  | [.int i] => .ok (.int i) h
  | [.bl k] => .ok (.int (if k then 1 else 0)) h
  | [.str s] => if s ≠ [] ∧ s.length ≤ 640 ∧ s.all (fun c => decide (48 ≤ c) && decide (c ≤ 57)) = true then .ok (.int (NumText.digitsVal s : Nat)) h else .bad
  | _ => .bad
def rInt : List V → Hp → VK → Prop := fun xs H Q => ((∃ i, xs = [.int i] ∧ Q (.int i) H) ∨ ∃ k, xs = [.bl k] ∧ Q (.int (if k then 1 else 0)) H) ∨ (∃ a n, xs = [.str a] ∧ PySem.intText? a = some n ∧ a.length ≤ 640 ∧ Q (.int n) H)
theorem call_intAll : CallR X (.type "int") rInt := call_int1.or call_int_str
theorem s_int : BiS F bInt rInt := by
  intro wx σ W H hp xs vs Q s r h
  unfold bInt at h
  split at h
  · obtain ⟨v, rfl, r1⟩ := repsB1 r
    cases r1
    exact .inl (.inl ⟨_, rfl, Fin.here h s rfl⟩)
  · obtain ⟨v, rfl, r1⟩ := repsB1 r
    cases r1
    exact .inl (.inr ⟨_, rfl, Fin.here h s rfl⟩)
  · rename_i z
    obtain ⟨v, rfl, r1⟩ := repsB1 r
    obtain ⟨rfl, o⟩ := r1
    split at h
    · rename_i hc
      refine .inr ⟨_, _, rfl, SX.int_S hc.2.2 hc.1 (by omega), by rw [str_len]; exact hc.2.1, Fin.here h s rfl⟩
    · exact h.elim
  · exact h.elim
def bAbs : BM := fun xs h => match xs with
  | [.int i] => .ok (.int (if i < 0 then -i else i)) h
  | _ => .bad
theorem s_abs : BiS F bAbs (fun xs H Q => ∃ i, xs = [.int i] ∧ Q (.int (if i < 0 then -i else i)) H) := by
  intro wx σ W H hp xs vs Q s r h
  unfold bAbs at h
  split at h
  · obtain ⟨v, rfl, r1⟩ := repsB1 r
    cases r1
    exact ⟨_, rfl, Fin.here h s rfl⟩
  · exact h.elim
/-! ### min, max -/
def bMin2 : BM := fun xs h => match xs with
  | [.int i, .int j] => .ok (.int (if j < i then j else i)) h
  | _ => .bad
def bMax2 : BM := fun xs h => match xs with
  | [.int i, .int j] => .ok (.int (if j > i then j else i)) h
  | _ => .bad
theorem s_min2 : BiS F bMin2 (fun xs H Q => ∃ i j, xs = [.int i, .int j] ∧ Q (.int (if j < i then j else i)) H) := by
  intro wx σ W H hp xs vs Q s r h
  unfold bMin2 at h
  split at h
  · obtain ⟨v, v2, rfl, r1, r2⟩ := repsB2 r
    cases r1; cases r2
    exact ⟨_, _, rfl, Fin.here h s rfl⟩
  · exact h.elim
theorem s_max2 : BiS F bMax2 (fun xs H Q => ∃ i j, xs = [.int i, .int j] ∧ Q (.int (if j > i then j else i)) H) := by
  intro wx σ W H hp xs vs Q s r h
  unfold bMax2 at h
  split at h
  · obtain ⟨v, v2, rfl, r1, r2⟩ := repsB2 r
    cases r1; cases r2
    exact ⟨_, _, rfl, Fin.here h s rfl⟩
  · exact h.elim
/-- whole numbers alone -/
def ints? : List D → Option (List Int)
  | [] => some []
  | .int i :: r => (ints? r).map (i :: ·)
  | _ :: _ => none
theorem ints_rep : ∀ {ds : List D} {vs : List V} {ns : List Int}, ints? ds = some ns → Reps G W H ds vs → vs = ns.map V.int
  | [], _, _, e, r => by cases r; cases e; rfl
  | .int i :: ds, _, _, e, ⟨v, r, rfl, h, t⟩ => by
    simp only [ints?, Option.map_eq_some_iff] at e
    obtain ⟨ns, e1, rfl⟩ := e
    cases h
    rw [ints_rep e1 t]
    rfl
def bSum : BM := fun xs h => match xs with
  | [x] => (match unbox h x with
    | .lst ds => (match ints? ds with | some ns => .ok (.int ns.sum) h | none => .bad)
    | _ => .bad)
  | _ => .bad
theorem s_sum (hK : F.G.K = X.K) : BiS F bSum (rSum X.K) := by
  intro wx σ W H hp xs vs Q s r h
  unfold bSum at h
  split at h
  · obtain ⟨v, rfl, r1⟩ := repsB1 r
    have ux := unbox_rep s r1
    split at h
    · rename_i ds e1
      rw [e1] at ux
      obtain ⟨p, vs, rfl, tp, rp⟩ := ux
      split at h
      · rename_i ns en
        have ev := ints_rep en rp
        subst ev
        exact ⟨p, ns, rfl, SqL.of tp, Fin.here h s rfl⟩
      · exact h.elim
    · exact h.elim
  · exact h.elim
def minI : List Int → Int
  | [] => 0
  | [x] => x
  | x :: r => min x (minI r)
def maxI : List Int → Int
  | [] => 0
  | [x] => x
  | x :: r => max x (maxI r)
theorem minI_mem : ∀ {l : List Int}, 0 < l.length → minI l ∈ l ∧ ∀ y, y ∈ l → minI l ≤ y
  | [], h => by simp at h
  | [x], _ => by simp [minI]
  | x :: y :: r, _ => by
    obtain ⟨h1, h2⟩ := minI_mem (l := y :: r) (by simp)
    have e : minI (x :: y :: r) = min x (minI (y :: r)) := rfl
    rw [e]
    refine ⟨?_, fun z hz => ?_⟩
    · rcases Int.le_total x (minI (y :: r)) with q | q
      · rw [Int.min_eq_left q]; exact List.mem_cons_self
      · rw [Int.min_eq_right q]; exact List.mem_cons_of_mem _ h1
    · rcases List.mem_cons.mp hz with q | q
      · rw [q]; exact Int.min_le_left _ _
      · exact Int.le_trans (Int.min_le_right _ _) (h2 z q)
theorem maxI_mem : ∀ {l : List Int}, 0 < l.length → maxI l ∈ l ∧ ∀ y, y ∈ l → y ≤ maxI l
  | [], h => by simp at h
  | [x], _ => by simp [maxI]
  | x :: y :: r, _ => by
    obtain ⟨h1, h2⟩ := maxI_mem (l := y :: r) (by simp)
    have e : maxI (x :: y :: r) = max x (maxI (y :: r)) := rfl
    rw [e]
    refine ⟨?_, fun z hz => ?_⟩
    · rcases Int.le_total x (maxI (y :: r)) with q | q
      · rw [Int.max_eq_right q]; exact List.mem_cons_of_mem _ h1
      · rw [Int.max_eq_left q]; exact List.mem_cons_self
    · rcases List.mem_cons.mp hz with q | q
      · rw [q]; exact Int.le_max_left _ _
      · exact Int.le_trans (h2 z q) (Int.le_max_right _ _)
def bMin : BM := fun xs h => match xs with
  | [x] => (match unbox h x with
    | .lst ds => (match ints? ds with | some ns => if 0 < ns.length then .ok (.int (minI ns)) h else .bad | none => .bad)
    | _ => .bad)
  | _ => .bad
def bMax : BM := fun xs h => match xs with
  | [x] => (match unbox h x with
    | .lst ds => (match ints? ds with | some ns => if 0 < ns.length then .ok (.int (maxI ns)) h else .bad | none => .bad)
    | _ => .bad)
  | _ => .bad
theorem s_minL : BiS F bMin (rMin X.K) := by
  intro wx σ W H hp xs vs Q s r h
  unfold bMin at h
  split at h
  · obtain ⟨v, rfl, r1⟩ := repsB1 r
    have ux := unbox_rep s r1
    split at h
    · rename_i ds e1
      rw [e1] at ux
      obtain ⟨p, vs, rfl, tp, rp⟩ := ux
      split at h
      · rename_i ns en
        have ev := ints_rep en rp
        subst ev
        split at h
        · rename_i hl
          obtain ⟨k1, k2⟩ := minI_mem hl
          exact ⟨p, ns, rfl, SqL.of tp, hl, fun m h1 h2 => by
            have : m = minI ns := by
              have a := h2 _ k1
              have b := k2 _ h1
              omega
            rw [this]
            exact Fin.here h s rfl⟩
        · exact h.elim
      · exact h.elim
    · exact h.elim
  · exact h.elim
theorem s_maxL : BiS F bMax (rMax X.K) := by
  intro wx σ W H hp xs vs Q s r h
  unfold bMax at h
  split at h
  · obtain ⟨v, rfl, r1⟩ := repsB1 r
    have ux := unbox_rep s r1
    split at h
    · rename_i ds e1
      rw [e1] at ux
      obtain ⟨p, vs, rfl, tp, rp⟩ := ux
      split at h
      · rename_i ns en
        have ev := ints_rep en rp
        subst ev
        split at h
        · rename_i hl
          obtain ⟨k1, k2⟩ := maxI_mem hl
          exact ⟨p, ns, rfl, SqL.of tp, hl, fun m h1 h2 => by
            have : m = maxI ns := by
              have a := h2 _ k1
              have b := k2 _ h1
              omega
            rw [this]
            exact Fin.here h s rfl⟩
        · exact h.elim
      · exact h.elim
    · exact h.elim
  · exact h.elim
/-! ### list(x), tuple(x) -/
def bList : BM := fun xs h => match xs with
  | [x] => (match unbox h x with
    | .lst ds => .ok (.lst ds) h
    | .tup ds => .ok (.lst ds) h
    | _ => .bad)
  | _ => .bad
def rLst (K : PySem.W.Frag) : List V → Hp → VK → Prop := fun xs H Q => ∃ p ys, xs = [.ref p] ∧ (SqL K H p ys ∨ SqT K H p ys) ∧ ∀ l, H l = none → Q (.ref l) (upd H l (.lst ys))
theorem s_listN (hK : F.G.K = X.K) : BiN F bList (rLst X.K) := by
  intro wx σ W0 H0 W H hp xs vs Q x0 s r h
  unfold bList at h
  split at h
  · obtain ⟨v, rfl, r1⟩ := repsB1 r
    have ux := unbox_rep s r1
    split at h
    · rename_i ds e1
      rw [e1] at ux
      obtain ⟨p, vs, rfl, tp, rp⟩ := ux
      exact ⟨p, vs, rfl, .inl (SqL.of tp), fun l hl => Fin.newLst x0 s hl rp h⟩
    · rename_i ds e1
      rw [e1] at ux
      obtain ⟨p, vs, rfl, tp, rp⟩ := ux
      exact ⟨p, vs, rfl, .inr (hK ▸ tp.sq), fun l hl => Fin.newLst x0 s hl rp h⟩
    · exact h.elim
  · exact h.elim
def bTuple : BM := fun xs h => match xs with
  | [x] => (match unbox h x with
    | .lst ds => .ok (.tup ds) h
    | .tup ds => .ok (.tup ds) h
    | _ => .bad)
  | _ => .bad
def rTpl (K : PySem.W.Frag) : List V → Hp → VK → Prop := fun xs H Q => ∃ p ys, xs = [.ref p] ∧ ((SqL K H p ys ∧ ∀ l, H l = none → Q (.ref l) (upd H l (.tup ys))) ∨ (SqT K H p ys ∧ Q (.ref p) H))
theorem s_tuple (hK : F.G.K = X.K) : BiS F bTuple (rTpl X.K) := by
  intro wx σ W H hp xs vs Q s r h
  unfold bTuple at h
  split at h
  · obtain ⟨v, rfl, r1⟩ := repsB1 r
    have ux := unbox_rep s r1
    split at h
    · rename_i ds e1
      rw [e1] at ux
      obtain ⟨p, vs, rfl, tp, rp⟩ := ux
      exact ⟨p, vs, rfl, .inl ⟨SqL.of tp, fun l hl => Fin.mkTup s hl rp h⟩⟩
    · rename_i ds e1
      rw [e1] at ux
      obtain ⟨p, vs, rfl, tp, rp⟩ := ux
      exact ⟨p, vs, rfl, .inr ⟨hK ▸ tp.sq, Fin.here h s ⟨p, vs, rfl, tp, rp⟩⟩⟩
    · exact h.elim
  · exact h.elim
/-! ### str(n), f'..' -/
def numD (i : Int) : List Nat := TL.numL i.toNat
theorem okS_num (n : Nat) : okS (TL.numL n) := by
  unfold okS TL.numL
  rw [List.all_map]
  refine List.all_eq_true.mpr fun c hc => ?_
  have h : UInt32.isValidChar c.val := c.valid
  have h2 : c.val.toNat < 0xd800 ∨ (0xdfff < c.val.toNat ∧ c.val.toNat < 0x110000) := h
  simp only [Function.comp, decide_eq_true_eq]
  show c.val.toNat < 0x110000
  omega
theorem str_num {i : Int} (h : 0 ≤ i) : Str.ofString (toString i) = ⟨(numD i).toArray⟩ := by
  have e : i = ((i.toNat : Nat) : Int) := (Int.toNat_of_nonneg h).symm
  unfold numD
  rw [e]
  exact TL.ext_tl (by rw [TL.tl_num]; rfl)
theorem log_ok {i : Int} (h : 0 ≤ i ∧ i < 2 ^ 64) : i.natAbs.log2 < 1920 := by
  have h2 : i.natAbs < 2 ^ 64 := by omega
  by_cases hz : i.natAbs = 0
  · rw [hz]; decide
  · have := (Nat.log2_lt hz).mpr h2
    omega
def bStr : BM := fun xs h => match xs with
  | [.int i] => if 0 ≤ i ∧ i < 2 ^ 64 then .ok (.str (numD i)) h else .bad
  | _ => .bad
theorem s_str : BiS F bStr (fun xs H Q => ∃ i, xs = [.int i] ∧ i.natAbs.log2 < 1920 ∧ Q (.str (toString i)) H) := by
  intro wx σ W H hp xs vs Q s r h
  unfold bStr at h
  split at h
  · obtain ⟨v, rfl, r1⟩ := repsB1 r
    cases r1
    split at h
    · rename_i hc
      refine ⟨_, rfl, log_ok hc, ?_⟩
      show Q (.str (Str.ofString (toString _))) H
      rw [str_num hc.1]
      exact Fin.here h s ⟨rfl, okS_num _⟩
    · exact h.elim
  · exact h.elim
def eFmt (a : EM) : EM := fun ρ h => (a ρ h).bind fun x h1 => match x with
  | .str s => if s.length ≤ 16777216 then .ok (.str s) h1 else .bad
  | .int i => if 0 ≤ i ∧ i < 2 ^ 64 then .ok (.str (numD i)) h1 else .bad
  | _ => .bad
theorem e_fmt {a : Expr} {ea : EM} {pos : Pos} (ha : PE X a (TrE F wx ea)) : PE X (.FormattedValue a (-1) none pos) (TrE F wx (eFmt ea)) :=
  PE.imp (pe_fmt ha) fun σ H Q ⟨W, ρ, hp, g, h⟩ => ⟨W, ρ, hp, g, Fin.bind h fun d hp1 W1 v H1 x1 s1 r1 h1 => by
    split at h1
    · obtain ⟨rfl, o⟩ := r1
      split at h1
      · rename_i hl
        exact .inl ⟨_, rfl, by rw [str_len]; exact lim_ok hl, Fin.here h1 s1 ⟨rfl, o⟩⟩
      · exact h1.elim
    · cases r1
      split at h1
      · rename_i hc
        refine .inr ⟨_, rfl, log_ok hc, ?_⟩
        show Q (.str (Str.ofString (toString _))) H1
        rw [str_num hc.1]
        exact Fin.here h1 s1 ⟨rfl, okS_num _⟩
      · exact h1.elim
    · exact h1.elim⟩
theorem e_joined1 {a : Expr} {ea : EM} {pos : Pos} (ha : PE X a (TrE F wx ea)) : PE X (.JoinedStr [a] pos) (TrE F wx ea) := pe_joined1 ha
/-- the parts one behind the other -/
def eJs : List EM → List Nat → EM
  | [], acc => fun _ h => .ok (.str acc) h
  | a :: r, acc => fun ρ h => (a ρ h).bind fun x h1 => match x with
    | .str s => if acc.length + s.length ≤ 16777216 then eJs r (acc ++ s) ρ h1 else .bad
    | _ => .bad
theorem js_imp : ∀ {es : List EM} {acc : List Nat} {H : Hp} {Q : VK} {W : Wd} {ρ : Rho} {hp : Hc}, okS acc → Gd F W ρ hp σ H → Fin F wx σ (Rep F.G) W H Q (eJs es acc ρ hp) → tJs (es.map fun em => TrE F wx em) ⟨acc.toArray⟩ σ H fun out H1 => Q (.str out) H1
  | [], acc, H, Q, W, ρ, hp, o, g, h => Fin.here h g.st ⟨rfl, o⟩
  | a :: r, acc, H, Q, W, ρ, hp, o, g, h => ⟨W, ρ, hp, g, Fin.bind h fun d hp1 W1 v H1 x1 s1 r1 h1 => by
    split at h1
    · obtain ⟨rfl, o1⟩ := r1
      split at h1
      · rename_i hl
        refine ⟨_, rfl, ?_, ?_⟩
        · rw [str_app, str_len, List.length_append]; exact lim_ok hl
        · rw [str_app]
          exact js_imp (okS_app o o1) (g.ext x1 s1) h1
      · exact h1.elim
    · exact h1.elim⟩
inductive PJE (F : Fr) (wx : WX) (X : Cx) : List Expr → List EM → Prop where
  | nil : PJE F wx X [] []
  | cons {e : Expr} {em : EM} {es : List Expr} {ems : List EM} (h : PE X e (TrE F wx em)) (r : PJE F wx X es ems) : PJE F wx X (e :: es) (em :: ems)
theorem PJE.pj {es : List Expr} {ems : List EM} (h : PJE F wx X es ems) : PJ X es (ems.map fun em => TrE F wx em) := by
  induction h with
  | nil => exact .nil
  | cons h _ ih => exact .cons h ih
theorem e_joined {v1 v2 : Expr} {rest : List Expr} {ems : List EM} {pos : Pos} (h : PJE F wx X (v1 :: v2 :: rest) ems) : PE X (.JoinedStr (v1 :: v2 :: rest) pos) (TrE F wx (eJs ems [])) :=
  PE.imp (pe_joined h.pj) fun σ H Q ⟨W, ρ, hp, g, q⟩ => js_imp rfl g q
end
end Z

/-! Z8: statements -/
namespace Z
open PySem PySem.Spec PyProof.Rows L2

def R.toS {α : Type} (r : R α) (ρ : Rho) (k : α → Hc → O) : O := match r with
  | .ok a h => k a h
  | .ex c h => .ex c ρ h
  | .bad => .bad
@[simp] theorem R.toS_ok {α : Type} (a : α) (h : Hc) (ρ : Rho) (k : α → Hc → O) : (R.ok a h).toS ρ k = k a h := rfl
@[simp] theorem R.toS_ex {α : Type} (c : Nat) (h : Hc) (ρ : Rho) (k : α → Hc → O) : (R.ex c h : R α).toS ρ k = .ex c ρ h := rfl
@[simp] theorem R.toS_bad {α : Type} (ρ : Rho) (k : α → Hc → O) : (R.bad : R α).toS ρ k = .bad := rfl

/-- what a statement's answer asks of what follows -/
def FinS (F : Fr) (wx : WX) (W : Wd) (H : Hp) (D : Ends) : O → Prop
  | .nx ρ hp => ∀ W' σ' H', Gd F W' ρ hp σ' H' → Lk W H W' H' → D.nx σ' H'
  | .bk ρ hp => ∀ W' σ' H', Gd F W' ρ hp σ' H' → Lk W H W' H' → D.bk σ' H'
  | .ct ρ hp => ∀ W' σ' H', Gd F W' ρ hp σ' H' → Lk W H W' H' → D.ct σ' H'
  | .rt d hp => ∀ W' v H', Ext F.W0 F.H0 W' H' → St0 F.G W' H' hp → Rep F.G W' H' d v → D.rt v H'
  | .ex c ρ hp => ∀ W' σ' H', Gd F W' ρ hp σ' H' → Lk W H W' H' → wx (.ref (F.G.ca c)) none σ' H'
  | .bad => False
def TrS (F : Fr) (wx : WX) (sm : SM) : TS := fun D σ H => ∃ W ρ hp, Gd F W ρ hp σ H ∧ FinS F wx W H D (sm ρ hp)

section
variable {F : Fr} {X : Cx} {wx : WX} {σ : L2.St} {G : Gl} {W W' W2 : Wd} {H H' H2 : Hp} {hp hp' : Hc} {E : Ends} {ρ : Rho}
theorem Lk.refl (W : Wd) (H : Hp) : Lk W H W H := ⟨fun _ _ h => h, fun _ h => h, fun _ _ h => h, fun _ _ _ e _ => e⟩
theorem Lk.trans (a : Lk W H W' H') (b : Lk W' H' W2 H2) : Lk W H W2 H2 := ⟨fun n x h => b.m n x (a.m n x h), fun x h => b.f x (a.f x h), fun n x h => b.l n x (a.l n x h), fun x o h e n => b.fk x o (a.f x h) (a.fk x o h e n) n⟩
theorem FinS.lk {o : O} (x : Lk W H W' H') (h : FinS F wx W H E o) : FinS F wx W' H' E o := by
  cases o with
  | nx ρ hp => exact fun W2 σ2 H2 g l => h W2 σ2 H2 g (x.trans l)
  | bk ρ hp => exact fun W2 σ2 H2 g l => h W2 σ2 H2 g (x.trans l)
  | ct ρ hp => exact fun W2 σ2 H2 g l => h W2 σ2 H2 g (x.trans l)
  | rt d hp => exact h
  | ex c ρ hp => exact fun W2 σ2 H2 g l => h W2 σ2 H2 g (x.trans l)
  | bad => exact h
theorem FinS.bind {α β : Type} {rel : Wd → Hp → α → β → Prop} {Q : β → Hp → Prop} {r : R α} {k : α → Hc → O} (g : Gd F W ρ hp σ H) (h : FinS F wx W H E (r.toS ρ k))
    (nx : ∀ d hp' W' v H', Ext W H W' H' → Gd F W' ρ hp' σ H' → rel W' H' d v → FinS F wx W' H' E (k d hp') → Q v H') : Fin F wx σ rel W H Q r := by
  cases r with
  | ok d hp' => exact fun W2 v H2 x2 s2 r2 => nx d hp' W2 v H2 x2 (g.ext x2 s2) r2 (FinS.lk x2.toLk h)
  | ex c hp' => exact fun W2 H2 x2 s2 => h W2 σ H2 (g.ext x2 s2) x2.toLk
  | bad => exact h
theorem FinS.hereN {hp : Hc} (h : FinS F wx W H E (.nx ρ hp)) (g : Gd F W' ρ hp σ H') (x : Lk W H W' H') : E.nx σ H' := h W' σ H' g x

/-! ### slots are written -/
theorem set_some {α : Type} {l : List α} {i j : Nat} {a b : α} (h : (l.set i a)[j]? = some b) : (j = i ∧ b = a ∧ i < l.length) ∨ (j ≠ i ∧ l[j]? = some b) := by
  by_cases e : i = j
  · subst e
    have h1 := (List.getElem?_eq_some_iff.mp h).1
    rw [List.length_set] at h1
    rw [List.getElem?_set_self h1] at h
    cases h
    exact .inl ⟨rfl, rfl, h1⟩
  · rw [List.getElem?_set_ne e] at h
    exact .inr ⟨fun z => e z.symm, h⟩
theorem owns_set {i : Nat} {d : D} {v : Option V} {j : Nat} {a : Addr} (h : Owns (ρ.set i (.v d)) (σ.set i v) j a) : j ≠ i ∧ Owns ρ σ j a := by
  obtain ⟨⟨e, h1⟩, h2⟩ := h
  rcases set_some h1 with ⟨_, z, _⟩ | ⟨n, h1⟩
  · cases z
  · refine ⟨n, ⟨e, h1⟩, ?_⟩
    rw [List.getElem?_set_ne (Ne.symm n)] at h2
    exact h2
theorem owns_setU {i : Nat} {v : Option V} {j : Nat} {a : Addr} (h : Owns (ρ.set i .u) (σ.set i v) j a) : j ≠ i ∧ Owns ρ σ j a := by
  obtain ⟨⟨e, h1⟩, h2⟩ := h
  rcases set_some h1 with ⟨_, z, _⟩ | ⟨n, h1⟩
  · cases z
  · refine ⟨n, ⟨e, h1⟩, ?_⟩
    rw [List.getElem?_set_ne (Ne.symm n)] at h2
    exact h2
theorem Gd.set {i : Nat} {d : D} {v : V} (g : Gd F W ρ hp σ H) (r : Rep F.G W H d v) : Gd F W (ρ.set i (.v d)) hp (σ.set i (some v)) H where
  x0 := g.x0
  st := g.st
  env := {
    len := by rw [List.length_set, List.length_set]; exact g.env.len
    at_ := fun j s ov h1 h2 => by
      rcases set_some h1 with ⟨e1, e2, hl⟩ | ⟨n, h1⟩
      · subst e1; subst e2
        rcases set_some h2 with ⟨_, e3, _⟩ | ⟨n, _⟩
        · subst e3; exact ⟨v, rfl, r⟩
        · exact absurd rfl n
      · rw [List.getElem?_set_ne (Ne.symm n)] at h2
        exact g.env.at_ j s ov h1 h2
    ap := fun j k a h1 h2 => g.env.ap j k a (owns_set h1).2 (owns_set h2).2
    nw := fun j a h => g.env.nw j a (owns_set h).2 }
/-- a slot is stored a list or dict that nothing else holds -/
theorem Gd.setO {i : Nat} {d : D} {v : V} {Hs : Hp} (g : Gd F W ρ hp σ H) (hs : ∀ b, F.H0 b ≠ none → Hs b ≠ none) (ho : ∀ j b, Owns ρ σ j b → Hs b ≠ none) (r : RepN F.G Hs W H d v) : Gd F W (ρ.set i (.o d)) hp (σ.set i (some v)) H := by
  have sl : SlRep F.G W H (.o d) (some v) ∧ ∃ a, v = .ref a ∧ Hs a = none := by
    cases d with
    | lst ds => obtain ⟨a, vs, rfl, e, r, n0, nf, nm⟩ := r; exact ⟨⟨a, vs, rfl, e, r, nf, nm⟩, a, rfl, n0⟩
    | dic ds => obtain ⟨a, vs, rfl, e, r, n0, nf, nm⟩ := r; exact ⟨⟨a, vs, rfl, e, r, nf, nm⟩, a, rfl, n0⟩
    | dit ds => obtain ⟨a, vs, rfl, e, r, n0, nf, nm⟩ := r; exact ⟨⟨a, vs, rfl, e, r, nf, nm⟩, a, rfl, n0⟩
    | _ => exact r.elim
  obtain ⟨sl, a0, rfl, n0⟩ := sl
  have own : ∀ {j : Nat} {a : Addr}, Owns (ρ.set i (.o d)) (σ.set i (some (.ref a0))) j a → (j = i ∧ a = a0) ∨ (j ≠ i ∧ Owns ρ σ j a) := fun {j a} h => by
    obtain ⟨⟨e, h1⟩, h2⟩ := h
    rcases set_some h1 with ⟨e1, e2, _⟩ | ⟨n, h1⟩
    · subst e1
      rcases set_some h2 with ⟨_, e3, _⟩ | ⟨n, _⟩
      · exact .inl ⟨rfl, by simpa using e3⟩
      · exact absurd rfl n
    · rw [List.getElem?_set_ne (Ne.symm n)] at h2
      exact .inr ⟨n, ⟨e, h1⟩, h2⟩
  exact {
    x0 := g.x0
    st := g.st
    env := {
      len := by rw [List.length_set, List.length_set]; exact g.env.len
      at_ := fun j s ov h1 h2 => by
        rcases set_some h1 with ⟨e1, e2, hl⟩ | ⟨n, h1⟩
        · subst e1; subst e2
          rcases set_some h2 with ⟨_, e3, _⟩ | ⟨n, _⟩
          · subst e3; exact sl
          · exact absurd rfl n
        · rw [List.getElem?_set_ne (Ne.symm n)] at h2
          exact g.env.at_ j s ov h1 h2
      ap := fun j k a h1 h2 => by
        rcases own h1 with ⟨e1, e2⟩ | ⟨n1, o1⟩
        · rcases own h2 with ⟨e3, e4⟩ | ⟨n2, o2⟩
          · omega
          · subst e2; exact absurd n0 (ho k a o2)
        · rcases own h2 with ⟨e3, e4⟩ | ⟨n2, o2⟩
          · subst e4; exact absurd n0 (ho j a o1)
          · exact g.env.ap j k a o1 o2
      nw := fun j a h => by
        rcases own h with ⟨e1, e2⟩ | ⟨n1, o1⟩
        · subst e2
          exact Classical.byContradiction fun z => hs a z n0
        · exact g.env.nw j a o1 } }
theorem SlRep.ne {s : Sl} {d : D} {a : Addr} (h : SlRep G W H (.o d) (some (.ref a))) : H a ≠ none ∧ ¬ W.fz a ∧ ∀ n, W.m n ≠ some a := by
  cases d with
  | lst ds => obtain ⟨b, vs, e, q, r, f, m⟩ := h; cases e; exact ⟨by rw [q]; simp, f, m⟩
  | dic ds => obtain ⟨b, vs, e, q, r, f, m⟩ := h; cases e; exact ⟨by rw [q]; simp, f, m⟩
  | dit ds => obtain ⟨b, vs, e, q, r, f, m⟩ := h; cases e; exact ⟨by rw [q]; simp, f, m⟩
  | _ => exact h.elim
theorem Gd.own_ne (g : Gd F W ρ hp σ H) {j : Nat} {b : Addr} (h : Owns ρ σ j b) : H b ≠ none ∧ ¬ W.fz b ∧ ∀ n, W.m n ≠ some b := by
  obtain ⟨⟨d, h1⟩, h2⟩ := h
  exact SlRep.ne (s := .u) (g.env.at_ j _ _ h1 h2)
theorem Gd.own_at (g : Gd F W ρ hp σ H) : ∀ j b, Owns ρ σ j b → H b ≠ none := fun j b h => (g.own_ne h).1

/-! ### a slot's list is from now on a value -/
def sFz (i : Nat) (s : SM) : SM := fun ρ h => match ρ[i]? with
  | some (.o d) => s (ρ.set i (.v d)) h
  | some (.v _) => s ρ h
  | _ => .bad
theorem Gd.freeze {i : Nat} {d : D} (g : Gd F W ρ hp σ H) (e : ρ[i]? = some (.o d)) : ∃ W', Lk W H W' H ∧ Gd F W' (ρ.set i (.v d)) hp σ H := by
  obtain ⟨ov, e2, sl⟩ := g.slot e
  have main : ∀ a, ov = some (.ref a) → H a ≠ none → (∀ n, W.m n ≠ some a) → Rep F.G (W.fzA a) H d (.ref a) → ∃ W', Lk W H W' H ∧ Gd F W' (ρ.set i (.v d)) hp σ H := fun a ea ne nm rp => by
    subst ea
    have ow : Owns ρ σ i a := ⟨⟨d, e⟩, e2⟩
    refine ⟨W.fzA a, lk_freeze, ?_⟩
    have hσ : σ.set i (some (.ref a)) = σ := by
      apply List.ext_getElem?
      intro k
      by_cases z : i = k
      · subst z; rw [List.getElem?_set_self (List.getElem?_eq_some_iff.mp e2).1, e2]
      · rw [List.getElem?_set_ne z]
    have own : ∀ {j : Nat} {b : Addr}, Owns (ρ.set i (.v d)) σ j b → j ≠ i ∧ Owns ρ σ j b := fun {j b} h => by rw [← hσ] at h; have := owns_set h; rw [hσ] at h; exact this
    exact {
      x0 := ext_freeze g.x0 (g.env.nw i a ow)
      st := st_freeze g.st ne nm
      env := {
        len := by rw [List.length_set]; exact g.env.len
        at_ := fun j s ov h1 h2 => by
          rcases set_some h1 with ⟨e1, e3, hl⟩ | ⟨n, h1⟩
          · subst e1; subst e3
            rw [e2] at h2; cases h2
            exact ⟨_, rfl, rp⟩
          · have q := g.env.at_ j s ov h1 h2
            have nf : ∀ b, ov = some (.ref b) → (∃ d, s = .o d) → ¬ W.fz b → ¬ (W.fzA a).fz b := fun b eb hd hz z => z.elim hz fun z => by
              obtain ⟨d', hd⟩ := hd
              subst hd; subst eb; subst z
              exact n (g.env.ap j i b ⟨⟨d', h1⟩, h2⟩ ow)
            cases s with
            | u => trivial
            | v d => obtain ⟨v, ev, r⟩ := q; exact ⟨v, ev, r.ext lk_freeze⟩
            | o d =>
              cases d with
              | lst ds => obtain ⟨b, vs, eb, q, r, f, m⟩ := q; exact ⟨b, vs, eb, q, r.ext lk_freeze, nf b eb ⟨_, rfl⟩ f, m⟩
              | dic ds => obtain ⟨b, vs, eb, q, r, f, m⟩ := q; exact ⟨b, vs, eb, q, r.ext lk_freeze, nf b eb ⟨_, rfl⟩ f, m⟩
              | dit ds => obtain ⟨b, vs, eb, q, r, f, m⟩ := q; exact ⟨b, vs, eb, q, r.ext lk_freeze, nf b eb ⟨_, rfl⟩ f, m⟩
              | _ => exact q.elim
        ap := fun j k b h1 h2 => g.env.ap j k b (own h1).2 (own h2).2
        nw := fun j b h => g.env.nw j b (own h).2 } }
  cases d with
  | lst ds => obtain ⟨a, vs, ea, q, r, f, m⟩ := sl; exact main a ea (by rw [q]; simp) m ⟨a, vs, rfl, ⟨.inr rfl, q⟩, r.ext lk_freeze⟩
  | dic ds => obtain ⟨a, vs, ea, q, r, f, m⟩ := sl; exact main a ea (by rw [q]; simp) m ⟨a, vs, rfl, ⟨.inr rfl, q⟩, r.ext lk_freeze⟩
  | dit ds => obtain ⟨a, vs, ea, q, r, f, m⟩ := sl; exact main a ea (by rw [q]; simp) m ⟨a, vs, rfl, ⟨.inr rfl, q⟩, r.ext lk_freeze⟩
  | _ => exact sl.elim
theorem fz_imp {i : Nat} {sm : SM} {E : Ends} {H : Hp} {σ : L2.St} (h : TrS F wx (sFz i sm) E σ H) : TrS F wx sm E σ H := by
  obtain ⟨W, ρ, hp, g, h⟩ := h
  unfold sFz at h
  split at h
  · rename_i d e
    obtain ⟨W', l, g'⟩ := g.freeze e
    exact ⟨W', _, hp, g', FinS.lk l h⟩
  · exact ⟨W, ρ, hp, g, h⟩
  · exact h.elim
theorem s_fz {st : Stmt} {i : Nat} {sm : SM} (h : PS X st (TrS F wx sm)) : PS X st (TrS F wx (sFz i sm)) := PS.imp h fun _ _ _ => fz_imp
theorem ss_fz {st : List Stmt} {i : Nat} {sm : SM} (h : PSs X st (TrS F wx sm)) : PSs X st (TrS F wx (sFz i sm)) := PSs.imp h fun _ _ _ => fz_imp

/-! ### blocks -/
def sNx : SM := fun ρ h => .nx ρ h
def sSeq (a b : SM) : SM := fun ρ h => match a ρ h with
  | .nx ρ' h' => b ρ' h'
  | o => o
def sBk : SM := fun ρ h => .bk ρ h
def sCt : SM := fun ρ h => .ct ρ h
theorem ss_nil : PSs X [] (TrS F wx sNx) := PSs.imp pss_nil fun D σ H ⟨W, ρ, hp, g, h⟩ => h W σ H g (Lk.refl W H)
theorem seq_imp {a b : SM} {E : Ends} {σ : L2.St} {H : Hp} (h : TrS F wx (sSeq a b) E σ H) : tSeq (TrS F wx a) (TrS F wx b) E σ H := by
  obtain ⟨W, ρ, hp, g, h⟩ := h
  refine ⟨W, ρ, hp, g, ?_⟩
  unfold sSeq at h
  revert h
  cases a ρ hp with
  | nx ρ' hp' => exact fun h W' σ' H' g' l => ⟨W', ρ', hp', g', FinS.lk l h⟩
  | rt d hp' => exact fun h => h
  | bk ρ' hp' => exact fun h => h
  | ct ρ' hp' => exact fun h => h
  | ex c ρ' hp' => exact fun h => h
  | bad => exact fun h => h
theorem ss_cons {st : Stmt} {rest : List Stmt} {a b : SM} (h1 : PS X st (TrS F wx a)) (h2 : PSs X rest (TrS F wx b)) : PSs X (st :: rest) (TrS F wx (sSeq a b)) := PSs.imp (pss_cons h1 h2) fun _ _ _ => seq_imp
theorem ss_one {st : Stmt} {a : SM} (h1 : PS X st (TrS F wx a)) : PSs X [st] (TrS F wx a) := pss_one h1
theorem s_pass {pos : Pos} : PS X (.Pass pos) (TrS F wx sNx) := PS.imp ps_pass fun D σ H ⟨W, ρ, hp, g, h⟩ => h W σ H g (Lk.refl W H)
theorem s_break {pos : Pos} : PS X (.Break pos) (TrS F wx sBk) := PS.imp ps_break fun D σ H ⟨W, ρ, hp, g, h⟩ => h W σ H g (Lk.refl W H)
theorem s_cont {pos : Pos} : PS X (.Continue pos) (TrS F wx sCt) := PS.imp ps_continue fun D σ H ⟨W, ρ, hp, g, h⟩ => h W σ H g (Lk.refl W H)
def sDo (em : EM) : SM := fun ρ h => (em ρ h).toS ρ fun _ h1 => .nx ρ h1
theorem s_do {e : Expr} {em : EM} {pos : Pos} (he : PE X e (TrE F wx em)) (hs : swapsWith e none pos.line X.env = pure false := by rfl) : PS X (.Expr e pos) (TrS F wx (sDo em)) :=
  PS.imp (ps_expr he hs) fun D σ H ⟨W, ρ, hp, g, h⟩ => ⟨W, ρ, hp, g, FinS.bind g h fun d hp' W' v H' x g' r q => q W' σ H' g' (Lk.refl W' H')⟩
def sRet (em : EM) : SM := fun ρ h => (em ρ h).toS ρ fun d h1 => .rt d h1
theorem s_ret {e : Expr} {em : EM} {pos : Pos} (he : PE X e (TrE F wx em)) : PS X (.Return (some e) pos) (TrS F wx (sRet em)) :=
  PS.imp (ps_ret he) fun D σ H ⟨W, ρ, hp, g, h⟩ => ⟨W, ρ, hp, g, FinS.bind g h fun d hp' W' v H' x g' r q => q W' v H' g'.x0 g'.st r⟩
def sRetN : SM := fun ρ h => .rt .non h
theorem s_retN {pos : Pos} : PS X (.Return none pos) (TrS F wx sRetN) := PS.imp ps_retN fun D σ H ⟨W, ρ, hp, g, h⟩ => h W .non H g.x0 g.st rfl
def sIf (t : TM) (a b : SM) : SM := fun ρ h => (t ρ h).toS ρ fun c h1 => if c = true then a ρ h1 else b ρ h1
theorem s_if {c : Expr} {p q : List Stmt} {t : TM} {a b : SM} {pos : Pos} (hc : PT X c (TrT F wx t)) (ha : PSs X p (TrS F wx a)) (hb : PSs X q (TrS F wx b)) : PS X (.If c p q pos) (TrS F wx (sIf t a b)) :=
  PS.imp (ps_if hc ha hb) fun D σ H ⟨W, ρ, hp, g, h⟩ => ⟨W, ρ, hp, g, FinS.bind g h fun d hp' W' v H' x g' r q => by
    subst r
    cases d with
    | true => rw [if_pos rfl] at q ⊢; exact ⟨W', ρ, hp', g', q⟩
    | false => rw [if_neg Bool.false_ne_true] at q ⊢; exact ⟨W', ρ, hp', g', q⟩⟩
/-! ### name = value -/
def sSet (i : Nat) (em : EM) : SM := fun ρ h => (em ρ h).toS ρ fun d h1 => .nx (ρ.set i (.v d)) h1
def sSetN (i : Nat) (em : EM) : SM := fun ρ h => (em ρ h).toS ρ fun d h1 => .nx (ρ.set i (.o d)) h1
theorem set_imp {i : Nat} {em : EM} {E : Ends} {σ : L2.St} {H : Hp} (h : TrS F wx (sSet i em) E σ H) : tAsg (TrE F wx em) (gName i) E σ H := by
  obtain ⟨W, ρ, hp, g, h⟩ := h
  exact ⟨W, ρ, hp, g, FinS.bind g h fun d hp' W' v H' x g' r q => q W' _ H' (g'.set r) (Lk.refl W' H')⟩
theorem setN_imp {i : Nat} {em : EM} {E : Ends} {σ : L2.St} {H : Hp} (h : TrS F wx (sSetN i em) E σ H) : tAsg (TrN F wx em) (gName i) E σ H := by
  obtain ⟨W, ρ, hp, g, h⟩ := h
  exact ⟨W, ρ, hp, g, FinS.bind g h fun d hp' W' v H' x g' r q => q W' _ H' (g'.setO (fun b z => g.x0.t b z) g.own_at r) (Lk.refl W' H')⟩
theorem s_set {i : Nat} {x : Str} {e : Expr} {em : EM} {pos pos' : Pos} (hN : X.N.Nodup) (he : PE X e (TrE F wx em)) (hi : X.N[i]? = some x := by rfl) (hx : Loc X.env.scope x := by first | exact .inl rfl | exact .inr rfl) (hs : swapsWith e (some (.Name x pos')) pos.line X.env = pure false := by rfl)
    (hf : X.fn x = true ∨ X.env.scope.names.lookup x = some .local := by first | exact .inr rfl | exact .inl rfl) : PS X (.Assign [.Name x pos'] e pos) (TrS F wx (sSet i em)) := PS.imp (ps_set hN hi hx he hs hf) fun _ _ _ => set_imp
theorem s_setN {i : Nat} {x : Str} {e : Expr} {em : EM} {pos pos' : Pos} (hN : X.N.Nodup) (he : PE X e (TrN F wx em)) (hi : X.N[i]? = some x := by rfl) (hx : Loc X.env.scope x := by first | exact .inl rfl | exact .inr rfl) (hs : swapsWith e (some (.Name x pos')) pos.line X.env = pure false := by rfl)
    (hf : X.fn x = true ∨ X.env.scope.names.lookup x = some .local := by first | exact .inr rfl | exact .inl rfl) : PS X (.Assign [.Name x pos'] e pos) (TrS F wx (sSetN i em)) := PS.imp (ps_set hN hi hx he hs hf) fun _ _ _ => setN_imp
end
end Z

/-! Z9: what is written in place, exceptions -/
namespace Z
open PySem PySem.Spec PyProof.Rows L2

def ContRep (G : Gl) (W : Wd) (H : Hp) (a : Addr) : D → Prop
  | .lst ds => ∃ vs, H a = some (.lst vs) ∧ Reps G W H ds vs
  | .dic ds => ∃ vs, H a = some (.dK vs) ∧ RepK G W H ds vs
  | .dit ds => ∃ vs, H a = some (.dT vs) ∧ RepT G W H ds vs
  | _ => False
/-- what stands in slot i's own list or dict, or in the box there -/
def held (ρ : Rho) (h : Hc) (i : Nat) : D := match ρ[i]? with
  | some (.o d) => d
  | some (.v (.ref n)) => (match h[n]? with
    | some (.box d) => d
    | _ => .non)
  | _ => .non
/-- .. is written -/
def put (ρ : Rho) (h : Hc) (i : Nat) (d : D) (k : Rho → Hc → O) : O := match ρ[i]? with
  | some (.o _) => k (ρ.set i (.o d)) h
  | some (.v (.ref n)) => if d.nl then k ρ (h.set n (.box d)) else .bad
  | _ => .bad
section
variable {F : Fr} {X : Cx} {wx : WX} {σ : L2.St} {G : Gl} {W W' W2 : Wd} {H H' H2 : Hp} {hp hp' : Hc} {E : Ends} {ρ : Rho}
def contO : HO → Prop
  | .lst _ => True
  | .dK _ => True
  | .dT _ => True
  | _ => False
theorem contO_x {o : HO} (h : contO o) (φ : Heap → Prop) : o ≠ .ext φ := fun e => by rw [e] at h; exact h
theorem contO_ok {o : HO} (h : contO o) : noTbl o ∧ ∀ p q, o ≠ LamX.CodeO p q := ⟨fun ps e => by rw [e] at h; exact h, fun p q e => by rw [e] at h; exact h⟩
theorem ContRep.ok {a : Addr} {d : D} (h : ContRep G W H a d) : ∃ o, H a = some o ∧ contO o := by
  cases d with
  | lst ds => obtain ⟨vs, e, _⟩ := h; exact ⟨_, e, trivial⟩
  | dic ds => obtain ⟨vs, e, _⟩ := h; exact ⟨_, e, trivial⟩
  | dit ds => obtain ⟨vs, e, _⟩ := h; exact ⟨_, e, trivial⟩
  | _ => exact h.elim
theorem ContRep.no {a : Addr} {o' : HO} {d : D} (h : ContRep G W (upd H a o') a d) : noTbl o' := by
  obtain ⟨o, e, c⟩ := h.ok
  rw [upd_same] at e
  cases e
  exact (contO_ok c).1
theorem SlRep.out {s : Sl} {ov : Option V} {p : Addr} {o' : HO} (h : SlRep G W H s ov) (hf : ¬ W.fz p) (he : ∀ φ, H p ≠ some (.ext φ)) (ne : ∀ d, s = .o d → ov ≠ some (.ref p)) : SlRep G W (upd H p o') s ov := by
  have l := lk_out (H := H) (o' := o') hf he
  cases s with
  | u => trivial
  | v d => obtain ⟨v, e, r⟩ := h; exact ⟨v, e, r.ext l⟩
  | o d =>
    have ne2 := ne d rfl
    cases d with
    | lst ds => obtain ⟨a, vs, e, q, r, f, m⟩ := h; exact ⟨a, vs, e, by rw [upd_ne (fun z => ne2 (by rw [e, z]))]; exact q, r.ext l, f, m⟩
    | dic ds => obtain ⟨a, vs, e, q, r, f, m⟩ := h; exact ⟨a, vs, e, by rw [upd_ne (fun z => ne2 (by rw [e, z]))]; exact q, r.ext l, f, m⟩
    | dit ds => obtain ⟨a, vs, e, q, r, f, m⟩ := h; exact ⟨a, vs, e, by rw [upd_ne (fun z => ne2 (by rw [e, z]))]; exact q, r.ext l, f, m⟩
    | _ => exact h.elim
theorem ContRep.sl {a : Addr} {d : D} (h : ContRep G W H a d) (f : ¬ W.fz a) (m : ∀ n, W.m n ≠ some a) : SlRep G W H (.o d) (some (.ref a)) := by
  cases d with
  | lst ds => obtain ⟨vs, q, r⟩ := h; exact ⟨a, vs, rfl, q, r, f, m⟩
  | dic ds => obtain ⟨vs, q, r⟩ := h; exact ⟨a, vs, rfl, q, r, f, m⟩
  | dit ds => obtain ⟨vs, q, r⟩ := h; exact ⟨a, vs, rfl, q, r, f, m⟩
  | _ => exact h.elim
theorem ContRep.cell {a : Addr} {d : D} (n : d.nl = true) (h : ContRep G W H a d) : CellRep G W.nl H a (.box d) := by
  cases d with
  | lst ds => obtain ⟨vs, q, r⟩ := h; exact ⟨vs, q, r.nl (by simpa [D.nl] using n)⟩
  | dic ds => obtain ⟨vs, q, r⟩ := h; exact ⟨vs, q, r.nl (by simpa [D.nl] using n)⟩
  | dit ds => obtain ⟨vs, q, r⟩ := h; exact ⟨vs, q, r.nl (by simpa [D.nl] using n)⟩
  | _ => exact h.elim
theorem ContRep.ext (x : Lk W H W' H') {a : Addr} {d : D} (e : H' a = H a) (h : ContRep G W H a d) : ContRep G W' H' a d := by
  cases d with
  | lst ds => obtain ⟨vs, q, r⟩ := h; exact ⟨vs, e.trans q, r.ext x⟩
  | dic ds => obtain ⟨vs, q, r⟩ := h; exact ⟨vs, e.trans q, r.ext x⟩
  | dit ds => obtain ⟨vs, q, r⟩ := h; exact ⟨vs, e.trans q, r.ext x⟩
  | _ => exact h.elim
/-- slot i holds its own list at a, and so it stays when the list is written -/
theorem Gd.held {i : Nat} (g : Gd F W ρ hp σ H) (hd : Z.held ρ hp i ≠ .non) : ∃ a, σ[i]? = some (some (.ref a)) ∧ ContRep F.G W H a (Z.held ρ hp i) ∧ ¬ W.fz a ∧
    ∀ (d' : D) (o' : HO) (k : Rho → Hc → O) (D : Ends), ContRep F.G W (upd H a o') a d' → FinS F wx W H D (put ρ hp i d' k) → ∃ ρ' hp', Gd F W ρ' hp' σ (upd H a o') ∧ Lk W H W (upd H a o') ∧ FinS F wx W (upd H a o') D (k ρ' hp') := by
  unfold Z.held at hd ⊢
  cases e : ρ[i]? with
  | none => rw [e] at hd; exact absurd rfl hd
  | some s =>
    rw [e] at hd
    cases s with
    | u => exact absurd rfl hd
    | o d =>
      obtain ⟨ov, e2, sl⟩ := g.slot e
      have main : ∀ a, ov = some (.ref a) → ContRep F.G W H a d → ¬ W.fz a → (∀ n, W.m n ≠ some a) → ∃ a, σ[i]? = some (some (.ref a)) ∧ ContRep F.G W H a d ∧ ¬ W.fz a ∧
          ∀ (d' : D) (o' : HO) (k : Rho → Hc → O) (D : Ends), ContRep F.G W (upd H a o') a d' → FinS F wx W H D (put ρ hp i d' k) → ∃ ρ' hp', Gd F W ρ' hp' σ (upd H a o') ∧ Lk W H W (upd H a o') ∧ FinS F wx W (upd H a o') D (k ρ' hp') := fun a ea cr f m => by
        subst ea
        refine ⟨a, e2, cr, f, fun d' o' k D cr' q => ?_⟩
        obtain ⟨o, eo, oc⟩ := cr.ok
        have he : ∀ φ, H a ≠ some (.ext φ) := fun φ z => by rw [eo] at z; exact contO_x oc φ (Option.some.inj z)
        have l := lk_out (H := H) (o' := o') f he
        unfold put at q
        rw [e] at q
        have q : FinS F wx W H D (k (ρ.set i (.o d')) hp) := q
        have ow : Owns ρ σ i a := ⟨⟨d, e⟩, e2⟩
        have ha0 := g.env.nw i a ow
        have own : ∀ {j : Nat} {b : Addr}, Owns (ρ.set i (.o d')) σ j b → Owns ρ σ j b := fun {j b} h => by
          obtain ⟨⟨d2, h1⟩, h2⟩ := h
          rcases set_some h1 with ⟨e1, _, _⟩ | ⟨n, h1⟩
          · subst e1; exact ⟨⟨d, e⟩, h2⟩
          · exact ⟨⟨d2, h1⟩, h2⟩
        refine ⟨_, _, ⟨?_, ⟨?_, ?_, ?_, ?_⟩, ?_⟩, l, FinS.lk l q⟩
        · exact ⟨⟨g.x0.m, g.x0.f, fun b φ hb => by rw [upd_ne (ne_of_none hb ha0)]; exact g.x0.l b φ hb, fun b o hb q n => by rw [upd_ne (fun z => f (by rw [← z]; exact g.x0.f b hb))]; exact g.x0.fk b o hb q n⟩,
            fun b u hb hn ht => by rw [upd_ne (ne_of_none hb ha0)]; exact g.x0.k b u hb hn ht,
            fun b hb => by
              unfold upd
              split
              · simp
              · exact g.x0.t b hb, g.x0.nf, g.x0.nm⟩
        · rw [List.length_set]; exact g.env.len
        · intro j s ov h1 h2
          rcases set_some h1 with ⟨e1, e3, _⟩ | ⟨n, h1⟩
          · subst e1; subst e3
            rw [e2] at h2; cases h2
            exact cr'.sl f m
          · refine (g.env.at_ j s ov h1 h2).out f he fun d2 es ez => ?_
            subst es; subst ez
            exact n (g.env.ap j i a ⟨⟨d2, h1⟩, h2⟩ ow)
        · exact fun j k b h1 h2 => g.env.ap j k b (own h1) (own h2)
        · exact fun j b h => g.env.nw j b (own h)
        · exact st_out g.st eo f m (contO_ok oc).1 (fun p => (contO_ok oc).2 _ p) (contO_x oc) cr'.no
      cases d with
      | lst ds => obtain ⟨a, vs, ea, q, r, f, m⟩ := sl; exact main a ea ⟨vs, q, r⟩ f m
      | dic ds => obtain ⟨a, vs, ea, q, r, f, m⟩ := sl; exact main a ea ⟨vs, q, r⟩ f m
      | dit ds => obtain ⟨a, vs, ea, q, r, f, m⟩ := sl; exact main a ea ⟨vs, q, r⟩ f m
      | _ => exact sl.elim
    | v d =>
      cases d with
      | ref n =>
        obtain ⟨ov, e2, v, ev, a, eva, em⟩ := g.slot e
        subst ev; subst eva
        have hd : (match hp[n]? with | some (.box d) => d | _ => .non) ≠ D.non := hd
        show ∃ a, σ[i]? = some (some (.ref a)) ∧ ContRep F.G W H a (match hp[n]? with | some (.box d) => d | _ => .non) ∧ _
        cases ec : hp[n]? with
        | none => rw [ec] at hd; exact absurd rfl hd
        | some c =>
          rw [ec] at hd
          cases c with
          | ins _ _ => exact absurd rfl hd
          | box d =>
            obtain ⟨a', em', cr⟩ := g.st.cells n _ ec
            rw [em] at em'; cases em'
            have cr : ContRep F.G W.nl H a d := by
              cases d with
              | lst ds => exact cr
              | dic ds => exact cr
              | dit ds => exact cr
              | _ => exact cr.elim
            have f := g.st.nfz n a em
            refine ⟨a, e2, cr.ext nl_lk rfl, f, fun d' o' k D cr' q => ?_⟩
            unfold put at q
            rw [e] at q
            have q : FinS F wx W H D (if d'.nl then k ρ (hp.set n (.box d')) else .bad) := q
            split at q
            · rename_i hn
              obtain ⟨o, eo, oc⟩ := cr.ok
              have x := ext_set (o' := o') g.st em
              exact ⟨_, _, g.ext x (st_set g.st em eo (contO_ok oc).1 (fun p => (contO_ok oc).2 _ p) (cr'.cell hn) cr'.no), x.toLk, FinS.lk x.toLk q⟩
            · exact q.elim
      | _ => exact absurd rfl hd
/-! ### methods of a list that write -/
/-- what a writing method does: the new list, its value -/
abbrev WM := List D → List D → Option (List D × D)
def WmS (F : Fr) (b : WM) (r : V → List V → Hp → VK → Prop) : Prop :=
  ∀ (W : Wd) (H : Hp) (hp : Hc) (a : Addr) (ds : List D) (vs : List V) (xs : List D) (us : List V) (ds' : List D) (w : D) (Q : VK), St0 F.G W H hp → H a = some (.lst vs) → Reps F.G W H ds vs → Reps F.G W H xs us → b ds xs = some (ds', w) →
    (∀ vs' u, Reps F.G W H ds' vs' → Rep F.G W H w u → Q u (upd H a (.lst vs'))) → r (.ref a) us H Q
def mLst (ρ : Rho) (h : Hc) (i : Nat) (b : WM) (xs : List D) (k : D → Rho → Hc → O) : O := match held ρ h i with
  | .lst ds => (match b ds xs with
    | some (ds', w) => put ρ h i (.lst ds') (k w)
    | none => .bad)
  | _ => .bad
def isL : D → Bool
  | .lst _ => true
  | _ => false
def sWm (b : WM) (i : Nat) (am : AM) : SM := fun ρ h => if isL (held ρ h i) then (am ρ h).toS ρ fun xs h1 => mLst ρ h1 i b xs fun _ ρ h => .nx ρ h else .bad
/-- name j = x_i.pop(..) -/
def sWmSet (b : WM) (j i : Nat) (am : AM) : SM := fun ρ h => if isL (held ρ h i) then (am ρ h).toS ρ fun xs h1 => mLst ρ h1 i b xs fun w ρ h => .nx (ρ.set j (.v w)) h else .bad
theorem isL_ne {d : D} (h : isL d = true) : d ≠ .non := fun e => by rw [e] at h; cases h
theorem wm_core {b : WM} {r : V → List V → Hp → VK → Prop} {i : Nat} {xs : List D} {us : List V} {k : D → Rho → Hc → O} {Q : VK} (hs : WmS F b r) (g : Gd F W ρ hp σ H) (rx : Reps F.G W H xs us) {a : Addr} (ea : σ[i]? = some (some (.ref a))) (q : FinS F wx W H E (mLst ρ hp i b xs k))
    (nx : ∀ w u ρ' hp' H', Gd F W ρ' hp' σ H' → Rep F.G W H' w u → FinS F wx W H' E (k w ρ' hp') → Q u H') : r (.ref a) us H Q := by
  unfold mLst at q
  split at q
  · rename_i ds eh
    split at q
    · rename_i ds' w eb
      obtain ⟨a', ea', cr, nf, nxt⟩ := g.held (wx := wx) (by rw [eh]; intro z; cases z)
      rw [ea] at ea'; cases ea'
      rw [eh] at cr
      obtain ⟨vs, e, rv⟩ := cr
      refine hs W H hp a ds vs xs us ds' w Q g.st e rv rx eb fun vs' u rv' rw' => ?_
      have l := lk_out (H := H) (o' := .lst vs') nf fun φ z => by rw [e] at z; cases z
      obtain ⟨ρ', hp', g', l', f'⟩ := nxt (.lst ds') (.lst vs') (k w) E ⟨vs', upd_same, rv'.ext l⟩ q
      exact nx w u ρ' hp' _ g' (rw'.ext l) f'
    · exact q.elim
  · exact q.elim
theorem held_ty {i : Nat} (g : Gd F W ρ hp σ H) (h : isL (Z.held ρ hp i) = true) : ∃ a, σ[i]? = some (some (.ref a)) ∧ ∀ K, tyV K "list" (.ref a) H := by
  obtain ⟨a, ea, cr, nf, nxt⟩ := g.held (wx := fun _ _ _ _ => True) (isL_ne h)
  cases eh : Z.held ρ hp i with
  | lst ds =>
    rw [eh] at cr
    obtain ⟨vs, e, _⟩ := cr
    exact ⟨a, ea, fun K => .inl ⟨rfl, vs, SqL.of e⟩⟩
  | _ => rw [eh] at h; cases h
theorem wm_te {b : WM} {r : V → List V → Hp → VK → Prop} {i : Nat} {am : AM} {Q : VK} {k : D → Rho → Hc → O} (hs : WmS F b r) (g : Gd F W ρ hp σ H) (h : FinS F wx W H E (if isL (Z.held ρ hp i) then (am ρ hp).toS ρ fun xs h1 => mLst ρ h1 i b xs k else .bad))
    (nx : ∀ W w u ρ' hp' H', Gd F W ρ' hp' σ H' → Rep F.G W H' w u → FinS F wx W H' E (k w ρ' hp') → Q u H') : tBM X.K "list" r (tVar i) (TrA F wx am) σ H Q := by
  split at h
  · rename_i hl
    obtain ⟨a, ea, ty⟩ := held_ty g hl
    refine ⟨_, ea, ty _, W, ρ, hp, g, FinS.bind g h fun xs hp1 W1 us H1 x1 g1 r1 q1 => ?_⟩
    exact wm_core hs g1 r1 ea q1 (nx W1)
  · exact h.elim
section
variable {b : WM} {r : V → List V → Hp → VK → Prop} {id : String} {name x y : Str} {i j : Nat} {am : AM} {e : Expr} {es : List Expr} {p p' apos cpos pos : Pos}
theorem pe_wm {t : TA} (slot : Slot "list" name id) (hty : typeOf (.builtin id) = pure (.type "method_descriptor")) (hm : MtR X id r) (ha : PA X (e :: es) t)
    (hN : X.N[i]? = some x := by rfl) (hv : Vis X.env.scope x := by first | exact Or.inl rfl | exact Or.inr (Or.inl rfl) | exact Or.inr (Or.inr rfl)) (hd : (x == ("__debug__" : Str)) = false := by decide) (hcd : (x == ("__classdict__" : Str)) = false := by decide)
    (hbase : attributeBase (.Name x p) name X.env (eval (.Name x p) X.env) = eval (.Name x p) X.env := by rfl)
    (hfew : ((backTo cpos (starEach (e :: es) X.env)).all (fun x => !x.1) && (backToKw cpos (keywordEach [] X.env)).all (fun x => x.1.isSome)
      && decide ((e :: es).length + ([] : List Keyword).length + (if ([] : List Keyword).isEmpty then 0 else 1) < 30)) = true := by rfl)
    (hline : (apos.endLine == cpos.line) = true := by rfl) (hst : starEach (e :: es) X.env = (false, eval e X.env) :: starEach es X.env := by rfl) (hplain : (backTo cpos (starEach es X.env)).any (·.1) = false := by rfl) :
    PE X (.Call (.Attribute (.Name x p) name apos) (e :: es) [] cpos) (tBM X.K "list" r (tVar i) t) := pe_bm F.plainAttrs_list slot hty hm (pe_var hN hv hd hcd) ha hbase hfew hline hst hplain
theorem wm_do {te : Expr} (hs : WmS F b r) (h : PE X te (tBM X.K "list" r (tVar i) (TrA F wx am))) (hsw : swapsWith te none pos.line X.env = pure false := by rfl) : PS X (.Expr te pos) (TrS F wx (sWm b i am)) :=
  PS.imp (ps_expr h hsw) fun D σ H ⟨W, ρ, hp, g, h⟩ => wm_te hs g h fun W w u ρ' hp' H' g' r q => q W σ H' g' (Lk.refl W H')
theorem wm_set {te : Expr} (hs : WmS F b r) (hN : X.N.Nodup) (h : PE X te (tBM X.K "list" r (tVar i) (TrA F wx am))) (hj : X.N[j]? = some y := by rfl) (hx : Loc X.env.scope y := by first | exact .inl rfl | exact .inr rfl) (hsw : swapsWith te (some (.Name y p')) pos.line X.env = pure false := by rfl)
    (hf : X.fn y = true ∨ X.env.scope.names.lookup y = some .local := by first | exact .inr rfl | exact .inl rfl) : PS X (.Assign [.Name y p'] te pos) (TrS F wx (sWmSet b j i am)) :=
  PS.imp (ps_set hN hj hx h hsw hf) fun D σ H ⟨W, ρ, hp, g, h⟩ => wm_te hs g h fun W w u ρ' hp' H' g' r q => q W _ H' (g'.set r) (Lk.refl W H')
end
theorem reps1 {d : D} {vs : List V} (r : Reps G W H [d] vs) : ∃ v, vs = [v] ∧ Rep G W H d v := by
  obtain ⟨v, r, e, h, t⟩ := r
  cases t
  exact ⟨v, e, h⟩
theorem Reps.one {d : D} {v : V} (h : Rep G W H d v) : Reps G W H [d] [v] := ⟨v, [], rfl, h, rfl⟩
theorem reps2 {d d2 : D} {vs : List V} (r : Reps G W H [d, d2] vs) : ∃ v v2, vs = [v, v2] ∧ Rep G W H d v ∧ Rep G W H d2 v2 := by
  obtain ⟨v, r, e, h, v2, r2, e2, h2, t⟩ := r
  cases t
  subst e2
  exact ⟨v, v2, e, h, h2⟩
def wAppend : WM := fun ds xs => match xs with
  | [x] => if ds.length < 16777216 then some (ds ++ [x], .non) else none
  | _ => none
theorem s_append : WmS F wAppend rAppend := fun W H hp a ds vs xs us ds' w Q s e rv rx eb q => by
  unfold wAppend at eb
  split at eb
  · split at eb
    · rename_i hl
      cases eb
      obtain ⟨u, rfl, ru⟩ := reps1 rx
      exact ⟨a, vs, u, rfl, rfl, e, by rw [← rv.length]; exact lim_lt hl, q _ _ (rv.append (Reps.one ru)) rfl⟩
    · cases eb
  · cases eb
def wInsert : WM := fun ds xs => match xs with
  | [.int i, x] => if ds.length < 16777216 ∧ 0 ≤ i ∧ i < 2 ^ 63 then some (ds.take i.toNat ++ [x] ++ ds.drop i.toNat, .non) else none
  | _ => none
def rInsert : V → List V → Hp → VK → Prop := fun x vs H Q => ∃ (l : Addr) (xs : List V) (i : Int) (y : V), x = .ref l ∧ vs = [.int i, y] ∧ H l = some (.lst xs) ∧ xs.length < sizeLine ∧ 0 ≤ i ∧ i < 2 ^ 63 ∧
    Q .non (upd H l (.lst (xs.take i.toNat ++ [y] ++ xs.drop i.toNat)))
theorem s_insert : WmS F wInsert rInsert := fun W H hp a ds vs xs us ds' w Q s e rv rx eb q => by
  unfold wInsert at eb
  split at eb
  · split at eb
    · rename_i hl
      cases eb
      obtain ⟨u, u2, rfl, ru, ru2⟩ := reps2 rx
      cases ru
      exact ⟨a, vs, _, u2, rfl, rfl, e, by rw [← rv.length]; exact lim_lt hl.1, hl.2.1, hl.2.2, q _ _ (((rv.take _).append (Reps.one ru2)).append (rv.drop _)) rfl⟩
    · cases eb
  · cases eb
theorem Reps.erase : ∀ {ds : List D} {vs : List V} (n : Nat), Reps G W H ds vs → Reps G W H (ds.eraseIdx n) (vs.eraseIdx n)
  | [], _, _, h => by cases h; exact rfl
  | d :: ds, _, 0, ⟨v, r, e, h, t⟩ => by rw [e]; exact t
  | d :: ds, _, n + 1, ⟨v, r, e, h, t⟩ => by rw [e]; exact ⟨v, _, rfl, h, Reps.erase n t⟩
def wPopAt : WM := fun ds xs => match xs with
  | [.int i] => if -(2 ^ 63) ≤ i ∧ i < 2 ^ 63 then (match seqIndex? i ds.length with
    | some k => (match ds[k]? with
      | some d => some (ds.eraseIdx k, d)
      | none => none)
    | none => none) else none
  | _ => none
theorem s_popAt : WmS F wPopAt rPopAt := fun W H hp a ds vs xs us ds' w Q s e rv rx eb q => by
  unfold wPopAt at eb
  split at eb
  · split at eb
    · rename_i hl
      split at eb
      · rename_i k ek
        split at eb
        · rename_i d ed
          cases eb
          obtain ⟨u, rfl, ru⟩ := reps1 rx
          cases ru
          obtain ⟨y, hy, ry⟩ := rv.get ed
          exact ⟨a, vs, _, k, y, rfl, rfl, e, hl.1, hl.2, by rw [← rv.length]; exact ek, hy, q _ _ (rv.erase k) ry⟩
        · cases eb
      · cases eb
    · cases eb
  · cases eb
end
end Z

/-! Z10: targets, loops, comprehensions -/
namespace Z
open PySem PySem.Spec PyProof.Rows L2

/-! ### targets: names and tuples (lists) of targets -/
inductive Tg where
  | n (i : Nat)
  | t (ts : List Tg)
  | l (ts : List Tg)
  deriving Inhabited
mutual
def bindD : Tg → D → Rho → Option Rho
  | .n i, d, ρ => some (ρ.set i (.v d))
  | .t ts, .tup ds, ρ => if ts.length = ds.length then bindDs ts ds ρ else none
  | .l ts, .lst ds, ρ => if ts.length = ds.length then bindDs ts ds ρ else none
  | _, _, _ => none
def bindDs : List Tg → List D → Rho → Option Rho
  | [], [], ρ => some ρ
  | t :: ts, d :: ds, ρ => (match bindD t d ρ with
    | some ρ' => bindDs ts ds ρ'
    | none => none)
  | _, _, _ => none
end
mutual
def Tg.inn (vs : List Nat) : Tg → Bool
  | .n i => vs.contains i
  | .t ts => inns vs ts
  | .l ts => inns vs ts
def inns (vs : List Nat) : List Tg → Bool
  | [] => true
  | t :: ts => t.inn vs && inns vs ts
end
section
variable {F : Fr} {X : Cx} {wx : WX} {σ : L2.St} {G : Gl} {W W' W2 : Wd} {H H' H2 : Hp} {hp hp' : Hc} {E : Ends} {ρ : Rho}
/-- σ' is σ but for slots that t binds -/
def Only (p : List Nat → Bool) (σ σ' : L2.St) : Prop := ∀ vs, p vs = true → wipe σ' vs = wipe σ vs
def TrG (F : Fr) (t : Tg) : TG := fun v σ H Q => ∃ W ρ hp d ρ', Gd F W ρ hp σ H ∧ Rep F.G W H d v ∧ bindD t d ρ = some ρ' ∧ ∀ σ', Gd F W ρ' hp σ' H → Only (fun vs => t.inn vs) σ σ' → Q σ' H
def TrGs (F : Fr) (ts : List Tg) : TGs := fun vs σ H Q => ∃ W ρ hp ds ρ', Gd F W ρ hp σ H ∧ Reps F.G W H ds vs ∧ bindDs ts ds ρ = some ρ' ∧ ∀ σ', Gd F W ρ' hp σ' H → Only (fun vs => inns vs ts) σ σ' → Q σ' H
theorem PG.imp {e : Expr} {t t' : TG} (h : PG X e t) (k : ∀ v σ H Q, t' v σ H Q → t v σ H Q) : PG X e t' := ⟨fun p s σ H v u Q I r q => h.run p s σ H v u Q I r (k v σ H Q q)⟩
theorem PGs.imp {e : List Expr} {t t' : TGs} (h : PGs X e t) (k : ∀ v σ H Q, t' v σ H Q → t v σ H Q) : PGs X e t' := ⟨fun p s σ H v u Q I r q => h.run p s σ H v u Q I r (k v σ H Q q)⟩
theorem wipe_set {i : Nat} {x : Option V} : ∀ {vs : List Nat} {σ : L2.St}, vs.contains i = true → wipe (σ.set i x) vs = wipe σ vs
  | [], σ, h => by simp at h
  | v :: vs, σ, h => by
    unfold wipe
    by_cases e : v = i
    · subst e
      have q : ∀ (ws : List Nat) (σ : L2.St), (wipe (σ.set v x) ws).set v none = (wipe σ ws).set v none := by
        intro ws
        induction ws with
        | nil => intro σ; show (σ.set v x).set v none = σ.set v none; rw [List.set_set]
        | cons w ws ih =>
          intro σ
          unfold wipe
          by_cases e : w = v
          · subst e; rw [List.set_set, List.set_set]; exact ih σ
          · rw [List.set_comm _ _ e, List.set_comm _ _ e, ih σ]
      exact q vs σ
    · rw [wipe_set (by
        rw [List.contains_cons] at h
        rcases Bool.or_eq_true _ _ |>.mp h with z | z
        · exact absurd (by simpa using z : i = v).symm e
        · exact z)]
theorem g_name {i : Nat} {x : Str} {pos : Pos} (hN : X.N.Nodup) (hi : X.N[i]? = some x := by rfl) (hx : Loc X.env.scope x := by first | exact .inl rfl | exact .inr rfl) (hf : X.fn x = true ∨ X.env.scope.names.lookup x = some .local := by first | exact .inr rfl | exact .inl rfl) : PG X (.Name x pos) (TrG F (.n i)) :=
  PG.imp (pg_name hN hi hx hf) fun v σ H Q ⟨W, ρ, hp, d, ρ', g, r, e, k⟩ => by
    have e : some (ρ.set i (.v d)) = some ρ' := e
    cases e
    exact k _ (g.set r) fun vs h => wipe_set h
theorem gs_nil : PGs X [] (TrGs F []) := PGs.imp pgs_nil fun v σ H Q ⟨W, ρ, hp, ds, ρ', g, r, e, k⟩ => by
  cases ds with
  | nil => cases r; cases e; exact ⟨rfl, k σ g fun vs h => rfl⟩
  | cons d ds => simp [bindDs] at e
theorem gs_cons {e : Expr} {es : List Expr} {t : Tg} {ts : List Tg} (h1 : PG X e (TrG F t)) (h2 : PGs X es (TrGs F ts)) (hs : (assignEach (e :: es) X.env).map (·.2) = assign e X.env :: (assignEach es X.env).map (·.2) := by rfl) : PGs X (e :: es) (TrGs F (t :: ts)) :=
  PGs.imp (pgs_cons h1 h2 hs) fun v σ H Q ⟨W, ρ, hp, ds, ρ', g, r, e, k⟩ => by
    cases ds with
    | nil => simp [bindDs] at e
    | cons d ds =>
      obtain ⟨v1, vr, rfl, r1, r2⟩ := r
      simp only [bindDs] at e
      split at e
      · rename_i ρ1 e1
        refine ⟨v1, vr, rfl, W, ρ, hp, d, ρ1, g, r1, e1, fun σ1 g1 o1 => ⟨W, ρ1, hp, ds, ρ', g1, r2, e, fun σ2 g2 o2 => k σ2 g2 fun vs hv => ?_⟩⟩
        simp only [inns, Bool.and_eq_true] at hv
        exact (o2 vs hv.2).trans (o1 vs hv.1)
      · cases e
theorem g_tup {es : List Expr} {k : Nat} {ts : List Tg} {n : Nat} {pos : Pos} (hK : F.G.K = X.K) (hc : X.calm = true) (h : PGs X es (TrGs F ts)) (hn : (assignEach es X.env).length = n := by rfl) (hl : ts.length = n := by rfl) (hst : (assignEach es X.env).findIdx? (·.1) = none := by rfl) : PG X (.Tuple es k pos) (TrG F (.t ts)) :=
  PG.imp (pg_tup hc h hn hst) fun v σ H Q ⟨W, ρ, hp, d, ρ', g, r, e, k⟩ => by
    cases d with
    | tup ds =>
      obtain ⟨a, vs, rfl, t, rs⟩ := r
      simp only [bindD] at e
      split at e
      · rename_i hl2
        exact ⟨a, vs, rfl, hK ▸ t.sq, by rw [← rs.length, ← hl2, hl], W, ρ, hp, ds, ρ', g, rs, e, k⟩
      · cases e
    | _ => simp [bindD] at e
theorem g_lst {es : List Expr} {k : Nat} {ts : List Tg} {n : Nat} {pos : Pos} (hc : X.calm = true) (h : PGs X es (TrGs F ts)) (hn : (assignEach es X.env).length = n := by rfl) (hl : ts.length = n := by rfl) (hst : (assignEach es X.env).findIdx? (·.1) = none := by rfl) : PG X (.Tuple es k pos) (TrG F (.l ts)) :=
  PG.imp (pg_lst hc h hn hst) fun v σ H Q ⟨W, ρ, hp, d, ρ', g, r, e, k⟩ => by
    cases d with
    | lst ds =>
      obtain ⟨a, vs, rfl, t, rs⟩ := r
      simp only [bindD] at e
      split at e
      · rename_i hl2
        exact ⟨a, vs, rfl, SqL.of t.2, by rw [← rs.length, ← hl2, hl], W, ρ, hp, ds, ρ', g, rs, e, k⟩
      · cases e
    | _ => simp [bindD] at e
/-- targets = value -/
def sTg (t : Tg) (em : EM) : SM := fun ρ h => (em ρ h).toS ρ fun d h1 => match bindD t d ρ with
  | some ρ' => .nx ρ' h1
  | none => .bad
theorem s_tg {tg e : Expr} {t : Tg} {em : EM} {pos : Pos} (he : PE X e (TrE F wx em)) (hg : PG X tg (TrG F t)) (hs : swapsWithSole [tg] e pos.line X.env = pure false := by rfl) (hw : swappedStores [tg] e X.env = pure none := by rfl)
    (h1 : (assignEach [tg] X.env).map (·.2) = [assign tg X.env] := by rfl) : PS X (.Assign [tg] e pos) (TrS F wx (sTg t em)) :=
  PS.imp (ps_asg he hg hs hw h1) fun D σ H ⟨W, ρ, hp, g, h⟩ => ⟨W, ρ, hp, g, FinS.bind g h fun d hp' W' v H' x g' r q => by
    split at q
    · rename_i ρ' e
      exact ⟨W', ρ, hp', d, ρ', g', r, e, fun σ' g2 _ => q W' σ' H' g2 (Lk.refl W' H')⟩
    · exact q.elim⟩
/-! ### a, b = x, y -/
/-- what a slot is to hold: a value, an own list -/
abbrev VM := Rho → Hc → R Sl
def vE (em : EM) : VM := fun ρ h => (em ρ h).bind fun d h1 => .ok (.v d) h1
def vN (em : EM) : VM := fun ρ h => (em ρ h).bind fun d h1 => .ok (.o d) h1
def RepS (G : Gl) (Hs : Hp) (W : Wd) (H : Hp) : Sl → V → Prop
  | .v d, v => Rep G W H d v
  | .o d, v => RepN G Hs W H d v
  | .u, _ => False
def TrV (F : Fr) (wx : WX) (vm : VM) : TE := fun σ H Q => ∃ W ρ hp, Gd F W ρ hp σ H ∧ Fin F wx σ (RepS F.G H) W H Q (vm ρ hp)
theorem v_e {e : Expr} {em : EM} (h : PE X e (TrE F wx em)) : PE X e (TrV F wx (vE em)) := PE.imp h fun σ H Q ⟨W, ρ, hp, g, q⟩ => ⟨W, ρ, hp, g, Fin.bindN q fun d hp' W' v H' x s r q => q W' v H' x s r⟩
theorem v_n {e : Expr} {em : EM} (h : PE X e (TrN F wx em)) : PE X e (TrV F wx (vN em)) := PE.imp h fun σ H Q ⟨W, ρ, hp, g, q⟩ => ⟨W, ρ, hp, g, Fin.bindN q fun d hp' W' v H' x s r q => q W' v H' x s r⟩
theorem RepN.ext {Hs : Hp} (x : Ext W H W' H') {d : D} {v : V} (h : RepN G Hs W H d v) : RepN G Hs W' H' d v := by
  have nn : ∀ (a : Addr) (o : HO), H a = some o → ¬ W.fz a → (∀ n, W.m n ≠ some a) → ¬ W'.fz a ∧ ∀ n, W'.m n ≠ some a := fun a o e f m =>
    ⟨fun z => (x.nf a z).elim f fun q => (by rw [e] at q; cases q), fun n z => (x.nm n a z).elim (m n) fun q => (by rw [e] at q; cases q)⟩
  cases d with
  | lst ds => obtain ⟨a, vs, e, q, r, n0, f, m⟩ := h; exact ⟨a, vs, e, x.k a _ q m (fun ps z => by cases z), r.ext x.toLk, n0, nn a _ q f m⟩
  | dic ds => obtain ⟨a, vs, e, q, r, n0, f, m⟩ := h; exact ⟨a, vs, e, x.k a _ q m (fun ps z => by cases z), r.ext x.toLk, n0, nn a _ q f m⟩
  | dit ds => obtain ⟨a, vs, e, q, r, n0, f, m⟩ := h; exact ⟨a, vs, e, x.k a _ q m (fun ps z => by cases z), r.ext x.toLk, n0, nn a _ q f m⟩
  | _ => exact h.elim
theorem RepS.ext {Hs : Hp} (x : Ext W H W' H') {s : Sl} {v : V} (h : RepS G Hs W H s v) : RepS G Hs W' H' s v := by
  cases s with
  | v d => exact Rep.ext x.toLk h
  | o d => exact RepN.ext x h
  | u => exact h.elim
theorem RepN.new {Hs : Hp} {d : D} {v : V} (h : RepN G Hs W H d v) : ∃ a, v = .ref a ∧ Hs a = none ∧ H a ≠ none := by
  cases d with
  | lst ds => obtain ⟨a, vs, e, q, r, n0, f, m⟩ := h; exact ⟨a, e, n0, by rw [q]; simp⟩
  | dic ds => obtain ⟨a, vs, e, q, r, n0, f, m⟩ := h; exact ⟨a, e, n0, by rw [q]; simp⟩
  | dit ds => obtain ⟨a, vs, e, q, r, n0, f, m⟩ := h; exact ⟨a, e, n0, by rw [q]; simp⟩
  | _ => exact h.elim
/-- the second own thing is another than those of the slots -/
theorem Gd.setO2 {i : Nat} {d : D} {v : V} {Hs : Hp} (g : Gd F W ρ hp σ H) (hs : ∀ b, F.H0 b ≠ none → Hs b ≠ none) (ho : ∀ j b, Owns ρ σ j b → v ≠ .ref b) (r : RepN F.G Hs W H d v) : Gd F W (ρ.set i (.o d)) hp (σ.set i (some v)) H := by
  obtain ⟨a, ev, n0, hne⟩ := r.new
  -- the heap at which all but a are
  refine g.setO (Hs := fun b => if b = a then none else H b) (fun b z => ?_) (fun j b o => ?_) ?_
  · show (if b = a then none else H b) ≠ none
    rw [if_neg (fun e => hs b z (by rw [e]; exact n0))]
    exact g.x0.t b z
  · show (if b = a then none else H b) ≠ none
    rw [if_neg (fun e => ho j b o (by rw [ev, e]))]
    exact g.own_at j b o
  · cases d with
    | lst ds => obtain ⟨b, vs, e, q, r, n0, f, m⟩ := r; rw [ev] at e; cases e; exact ⟨a, vs, ev, q, r, if_pos rfl, f, m⟩
    | dic ds => obtain ⟨b, vs, e, q, r, n0, f, m⟩ := r; rw [ev] at e; cases e; exact ⟨a, vs, ev, q, r, if_pos rfl, f, m⟩
    | dit ds => obtain ⟨b, vs, e, q, r, n0, f, m⟩ := r; rw [ev] at e; cases e; exact ⟨a, vs, ev, q, r, if_pos rfl, f, m⟩
    | _ => exact r.elim
def sPar (i j : Nat) (a b : VM) : SM := fun ρ h => (a ρ h).toS ρ fun x h1 => (b ρ h1).toS ρ fun y h2 => .nx ((ρ.set i x).set j y) h2
theorem par_imp {i j : Nat} {va vb : VM} {D : Ends} {σ : L2.St} {H : Hp} (hij : i ≠ j) (h : TrS F wx (sPar i j va vb) D σ H) : tPar i j (tCons (TrV F wx va) (tCons (TrV F wx vb) tNil)) D σ H := by
  obtain ⟨W, ρ, hp, g, h⟩ := h
  refine ⟨W, ρ, hp, g, FinS.bind g h fun x hp1 W1 v H1 x1 g1 r1 h1 => ⟨W1, ρ, hp1, g1, FinS.bind g1 h1 fun y hp2 W2 u H2 x2 g2 r2 h2 => ⟨v, u, rfl, ?_⟩⟩⟩
  have r1' := r1.ext x2
  have own0 : ∀ j b, Owns ρ σ j b → H b ≠ none := g.own_at
  have gx : Gd F W2 (ρ.set i x) hp2 (σ.set i (some v)) H2 := by
    cases x with
    | v d => exact g2.set r1'
    | o d => exact g2.setO (Hs := H) (fun b z => g.x0.t b z) own0 r1'
    | u => exact r1'.elim
  refine h2 W2 _ H2 ?_ (Lk.refl W2 H2)
  cases y with
  | v d => exact gx.set r2
  | o d =>
    refine gx.setO2 (Hs := H1) (fun b z => g1.x0.t b z) (fun k b o e => ?_) r2
    obtain ⟨a, ea, n1, _⟩ := RepN.new r2
    rw [ea] at e
    cases e
    obtain ⟨⟨d', h3⟩, h4⟩ := o
    rcases set_some h3 with ⟨e1, e2, _⟩ | ⟨n, h3⟩
    · subst e1
      rcases set_some h4 with ⟨_, e5, _⟩ | ⟨n, _⟩
      · cases e5
        subst e2
        obtain ⟨a', ea', _, ne⟩ := RepN.new (W := W1) (H := H1) r1
        cases ea'
        exact ne n1
      · exact absurd rfl n
    · rw [List.getElem?_set_ne (Ne.symm n)] at h4
      exact g1.own_at k _ ⟨⟨d', h3⟩, h4⟩ n1
  | u => exact r2.elim
theorem s_par {i j : Nat} {x y : Str} {a b : Expr} {va vb : VM} {px py pt pos : Pos} {kt k2 pt2} (hc : X.calm = true) (hN : X.N.Nodup) (ha : PE X a (TrV F wx va)) (hb : PE X b (TrV F wx vb)) (hi : X.N[i]? = some x := by rfl) (hj : X.N[j]? = some y := by rfl) (hij : i ≠ j := by decide)
    (hx : X.env.scope.names.lookup x = some .local := by rfl) (hy : X.env.scope.names.lookup y = some .local := by rfl)
    (hw : swappedStores [.Tuple [.Name x px, .Name y py] kt pt] (.Tuple [a, b] k2 pt2) X.env = pure (some [x, y]) := by rfl)
    (hs : swapsWithSole [.Tuple [.Name x px, .Name y py] kt pt] (.Tuple [a, b] k2 pt2) pos.line X.env = pure false := by rfl)
    (h2 : starEach [a, b] X.env = (false, eval a X.env) :: starEach [b] X.env := by rfl) (h3 : starEach [b] X.env = (false, eval b X.env) :: starEach [] X.env := by rfl) : PS X (.Assign [.Tuple [.Name x px, .Name y py] kt pt] (.Tuple [a, b] k2 pt2) pos) (TrS F wx (sPar i j va vb)) :=
  PS.imp (ps_par hc hN hi hj hij hx hy (pa_cons ha (pa_cons hb pa_nil h3) h2) hw hs) fun D σ H h => par_imp hij h
/-! ### iterables -/
/-- the iterator hands out ds, whatever goes on around it -/
def ItOk (G : Gl) (W : Wd) (H : Hp) (ds : List D) (J : It) : Prop := ∀ (W' : Wd) (H' : Hp), Lk W H W' H' →
  (∀ i d, ds[i]? = some d → J.go i H' ∧ ∀ x H2, J.yld i H' x H2 → ∃ W2, Ext W' H' W2 H2 ∧ (∀ hp, St0 G W' H' hp → St0 G W2 H2 hp) ∧ Rep G W2 H2 d x) ∧ ∀ i, ds.length ≤ i → J.stop i H'
abbrev IM := Rho → Hc → R (List D)
def TrI (F : Fr) (wx : WX) (im : IM) : TI := fun σ H R => ∃ W ρ hp, Gd F W ρ hp σ H ∧ Fin F wx σ (ItOk F.G) W H R (im ρ hp)
theorem PI.imp {tg e : Expr} {t t' : TI} (h : PI X tg e t) (k : ∀ σ H R, t' σ H R → t σ H R) : PI X tg e t' := ⟨fun p s σ H R I q => h.run p s σ H R I (k σ H R q)⟩
theorem PI.or {tg e : Expr} {t t' : TI} (h : PI X tg e t) (h' : PI X tg e t') : PI X tg e (fun σ H R => t σ H R ∨ t' σ H R) := ⟨fun p s σ H R I q => q.elim (h.run p s σ H R I) (h'.run p s σ H R I)⟩
/-- what a value hands out -/
def itemsD : D → Option (List D)
  | .lst ds => some ds
  | .tup ds => some ds
  | .scr ds => some ds
  | .str s => some (s.map fun c => .str [c])
  | _ => none
def iOf (em : EM) : IM := fun ρ h => (em ρ h).bind fun d h1 => match itemsD d with
  | some ds => .ok ds h1
  | none => .bad
theorem SqL.fz {K : PySem.W.Frag} {a : Addr} {vs : List V} (f : ScrAt G W H a vs) (x : Lk W H W' H') : SqL G.K H' a vs := by
  rcases f with ⟨f, h | ⟨o, h⟩⟩ | h
  · exact SqL.of (x.fk a _ f h fun ps z => by cases z)
  · exact .inl (.inr ⟨o, x.fk a _ f h fun ps z => by cases z⟩)
  · exact .inr h
theorem it_list {a : Addr} {ds : List D} {vs : List V} (hs : ∀ W' H', Lk W H W' H' → SqL G.K H' a vs) (r : Reps G W H ds vs) : ItOk G W H ds (Itl G.K a) := fun W' H' x =>
  ⟨fun i d e => by
    obtain ⟨v, e2, rv⟩ := r.get e
    refine ⟨⟨vs, v, hs W' H' x, e2⟩, fun y H2 ⟨eH, q⟩ => ?_⟩
    subst eH
    have := q vs (hs W' H2 x)
    rw [e2] at this; cases this
    exact ⟨W', Ext.refl _ _, fun _ s => s, rv.ext x⟩, fun i hi => ⟨vs, hs W' H' x, by rw [← r.length]; exact hi⟩⟩
theorem it_tup {a : Addr} {ds : List D} {vs : List V} (hs : ∀ W' H', Lk W H W' H' → SqT G.K H' a vs) (r : Reps G W H ds vs) : ItOk G W H ds (Itt G.K a) := fun W' H' x =>
  ⟨fun i d e => by
    obtain ⟨v, e2, rv⟩ := r.get e
    refine ⟨⟨vs, v, hs W' H' x, e2⟩, fun y H2 ⟨eH, q⟩ => ?_⟩
    subst eH
    have := q vs (hs W' H2 x)
    rw [e2] at this; cases this
    exact ⟨W', Ext.refl _ _, fun _ s => s, rv.ext x⟩, fun i hi => ⟨vs, hs W' H' x, by rw [← r.length]; exact hi⟩⟩
theorem it_str {s : List Nat} (o : okS s) : ItOk G W H (s.map fun c => .str [c]) (Its ⟨s.toArray⟩) := fun W' H' x =>
  ⟨fun i d e => by
    rw [List.getElem?_map] at e
    cases ec : s[i]? with
    | none => rw [ec] at e; cases e
    | some c =>
      rw [ec] at e
      have hl := (List.getElem?_eq_some_iff.mp ec).1
      refine ⟨by show i < s.toArray.size; simpa using hl, fun y H2 ⟨eH, c', e', ev⟩ => ?_⟩
      subst eH; subst ev
      have e' : s.toArray[i]? = some c' := e'
      rw [List.getElem?_toArray, ec] at e'
      cases e'
      cases e
      refine ⟨W', Ext.refl _ _, fun _ s => s, rfl, ?_⟩
      have := List.all_eq_true.mp o c (List.mem_of_getElem? ec)
      show ([c].all fun c => decide (c < 0x110000)) = true
      simp only [List.all_cons, List.all_nil, Bool.and_true]
      exact this, fun i hi => by
    rw [List.length_map] at hi
    show s.toArray.size ≤ i
    simpa using hi⟩
theorem i_of {tg e : Expr} {em : EM} (hK : F.G.K = X.K) (h : PE X e (TrE F wx em)) : PI X tg e (TrI F wx (iOf em)) :=
  PI.imp (PI.or (pi_list h) (PI.or (pi_tup h) (pi_str h))) fun σ H R ⟨W, ρ, hp, g, q⟩ => by
    unfold iOf at q
    cases ee : em ρ hp with
    | ex c h1 =>
      rw [ee] at q
      exact .inl ⟨W, ρ, hp, g, by rw [ee]; exact q⟩
    | bad => rw [ee] at q; exact q.elim
    | ok d h1 =>
      rw [ee] at q
      have q : Fin F wx σ (ItOk F.G) W H R (match itemsD d with | some ds => .ok ds h1 | none => .bad) := q
      cases d with
      | lst ds =>
        refine .inl ⟨W, ρ, hp, g, ?_⟩
        rw [ee]
        intro W' v H' x s r
        obtain ⟨a, vs, rfl, t, rs⟩ := r
        refine ⟨a, rfl, ⟨vs, hK ▸ SqL.of t.2⟩, q W' _ H' x s ?_⟩
        rw [← hK]
        exact it_list (vs := vs) (fun W2 H2 l => SqL.of (t.ext l).2) rs
      | scr ds =>
        refine .inl ⟨W, ρ, hp, g, ?_⟩
        rw [ee]
        intro W' v H' x s r
        obtain ⟨a, vs, rfl, t, rs⟩ := r
        refine ⟨a, rfl, ⟨vs, hK ▸ SqL.fz (K := F.G.K) t (Lk.refl _ _)⟩, q W' _ H' x s ?_⟩
        rw [← hK]
        exact it_list (vs := vs) (fun W2 H2 l => SqL.fz (K := F.G.K) t l) rs
      | tup ds =>
        refine .inr (.inl ⟨W, ρ, hp, g, ?_⟩)
        rw [ee]
        intro W' v H' x s r
        obtain ⟨a, vs, rfl, t, rs⟩ := r
        refine ⟨a, rfl, ⟨vs, hK ▸ t.sq⟩, q W' _ H' x s ?_⟩
        rw [← hK]
        exact it_tup (vs := vs) (fun W2 H2 l => (t.ext l).sq) rs
      | str s =>
        refine .inr (.inr ⟨W, ρ, hp, g, ?_⟩)
        rw [ee]
        intro W' v H' x s' r
        obtain ⟨rfl, o⟩ := r
        exact ⟨_, rfl, q W' _ H' x s' (it_str o)⟩
      | _ => exact q.elim
end
end Z

/-! Z11: ranges, enumerate, zip; for, while; comprehensions -/
namespace Z
open PySem PySem.Spec PyProof.Rows L2

def rngL : Int → Nat → List D
  | _, 0 => []
  | lo, n + 1 => .int lo :: rngL (lo + 1) n
theorem rngL_len : ∀ (lo : Int) (n : Nat), (rngL lo n).length = n
  | _, 0 => rfl
  | lo, n + 1 => by rw [rngL, List.length_cons, rngL_len]
theorem rngL_get : ∀ {lo : Int} {n i : Nat} {d : D}, (rngL lo n)[i]? = some d → i < n ∧ d = .int (lo + i)
  | _, 0, _, _, h => by simp [rngL] at h
  | lo, n + 1, 0, d, h => by
    simp only [rngL, List.getElem?_cons_zero, Option.some.injEq] at h
    subst h
    exact ⟨Nat.succ_pos _, by simp⟩
  | lo, n + 1, i + 1, d, h => by
    simp only [rngL, List.getElem?_cons_succ] at h
    obtain ⟨h1, h2⟩ := rngL_get h
    exact ⟨Nat.succ_lt_succ h1, by rw [h2]; congr 1; omega⟩
def enumL : Nat → List D → List D
  | _, [] => []
  | k, d :: ds => .tup [.int k, d] :: enumL (k + 1) ds
theorem enumL_len : ∀ (k : Nat) (ds : List D), (enumL k ds).length = ds.length
  | _, [] => rfl
  | k, d :: ds => by rw [enumL, List.length_cons, List.length_cons, enumL_len]
theorem enumL_get : ∀ {k : Nat} {ds : List D} {i : Nat} {d : D}, (enumL k ds)[i]? = some d → ∃ e, ds[i]? = some e ∧ d = .tup [.int ((k + i : Nat) : Int), e]
  | _, [], _, _, h => by simp [enumL] at h
  | k, e :: ds, 0, d, h => by
    simp only [enumL, List.getElem?_cons_zero, Option.some.injEq] at h
    subst h
    exact ⟨e, rfl, by simp⟩
  | k, e :: ds, i + 1, d, h => by
    simp only [enumL, List.getElem?_cons_succ] at h
    obtain ⟨e', h1, h2⟩ := enumL_get h
    exact ⟨e', by simpa using h1, by rw [h2, show k + 1 + i = k + (i + 1) by omega]⟩
def zipL : List D → List D → List D
  | x :: xs, y :: ys => .tup [x, y] :: zipL xs ys
  | _, _ => []
theorem zipL_get : ∀ {xs ys : List D} {i : Nat} {d : D}, (zipL xs ys)[i]? = some d → ∃ x y, xs[i]? = some x ∧ ys[i]? = some y ∧ d = .tup [x, y]
  | [], _, _, _, h => by simp [zipL] at h
  | _ :: _, [], _, _, h => by simp [zipL] at h
  | x :: xs, y :: ys, 0, d, h => by
    simp only [zipL, List.getElem?_cons_zero, Option.some.injEq] at h
    exact ⟨x, y, rfl, rfl, h.symm⟩
  | x :: xs, y :: ys, i + 1, d, h => by
    simp only [zipL, List.getElem?_cons_succ] at h
    obtain ⟨a, b, h1, h2, h3⟩ := zipL_get h
    exact ⟨a, b, by simpa using h1, by simpa using h2, h3⟩
theorem zipL_len : ∀ {xs ys : List D}, (zipL xs ys).length = min xs.length ys.length
  | [], _ => by simp [zipL]
  | _ :: _, [] => by simp [zipL]
  | x :: xs, y :: ys => by simp only [zipL, List.length_cons, zipL_len]; omega
section
variable {F : Fr} {X : Cx} {wx : WX} {σ : L2.St} {G : Gl} {W W' W2 : Wd} {H H' H2 : Hp} {hp hp' : Hc} {E : Ends} {ρ : Rho}
theorem ext_fz' {p : Addr} {o : HO} (e : H p = none) : Ext W H (W.fzA p) (upd H p o) where
  m := fun _ _ h => h
  f := fun _ h => .inl h
  l := fun a φ h => by rw [upd_ne (ne_of_none h e)]; exact h
  k := fun a u h _ _ => by rw [upd_ne (ne_of_none h e)]; exact h
  fk := fun a o h q _ => by rw [upd_ne (ne_of_none q e)]; exact q
  t := fun a h => by
    unfold upd
    split
    · simp
    · exact h
  nf := fun a h => h.elim .inl fun z => .inr (by rw [z]; exact e)
  nm := fun _ _ h => .inl h
theorem it_range {lo : Int} {n : Nat} : ItOk G W H (rngL lo n) (Itr lo n) := fun W' H' x =>
  ⟨fun i d e => by
    obtain ⟨h1, rfl⟩ := rngL_get e
    exact ⟨h1, fun y H2 ⟨eH, ey⟩ => by subst eH; subst ey; exact ⟨W', Ext.refl _ _, fun _ s => s, rfl⟩⟩, fun i hi => by rw [rngL_len] at hi; exact hi⟩
/-- a new pair at each turn -/
theorem it_enum {a : Addr} {ds : List D} {vs : List V} (hs : ∀ W' H', Lk W H W' H' → SqL G.K H' a vs) (r : Reps G W H ds vs) : ItOk G W H (enumL 0 ds) (Ite G.K a) := fun W' H' x =>
  ⟨fun i d e => by
    obtain ⟨d', e1, rfl⟩ := enumL_get e
    obtain ⟨v, e2, rv⟩ := r.get e1
    refine ⟨⟨vs, v, hs W' H' x, e2⟩, fun y H2 ⟨T, z, ey, hT, eH, q⟩ => ?_⟩
    have := q vs (hs W' H' x)
    rw [e2] at this; cases this
    subst ey; subst eH
    have x2 := ext_fz' (W := W') (o := .tup [.int (i : Nat), v]) hT
    refine ⟨W'.fzA T, x2, fun hp s => st_fz s hT, T, _, rfl, fz_tup, _, _, rfl, ?_, _, _, rfl, (rv.ext x).ext x2.toLk, rfl⟩
    show V.int _ = V.int _
    rw [Nat.zero_add], fun i hi => by rw [enumL_len] at hi; exact ⟨vs, hs W' H' x, by rw [← r.length]; exact hi⟩⟩
theorem it_zip {a b : Addr} {xs ys : List D} {vs us : List V} (hs : ∀ W' H', Lk W H W' H' → SqL G.K H' a vs) (ht : ∀ W' H', Lk W H W' H' → SqL G.K H' b us) (r : Reps G W H xs vs) (r' : Reps G W H ys us) : ItOk G W H (zipL xs ys) (Itz G.K a b) := fun W' H' x =>
  ⟨fun i d e => by
    obtain ⟨d1, d2, e1, e1', rfl⟩ := zipL_get e
    obtain ⟨v, e2, rv⟩ := r.get e1
    obtain ⟨u, e2', ru⟩ := r'.get e1'
    refine ⟨⟨vs, us, v, u, hs W' H' x, ht W' H' x, e2, e2'⟩, fun y H2 ⟨T, z1, z2, ey, hT, eH, q, q'⟩ => ?_⟩
    have := q vs (hs W' H' x)
    rw [e2] at this; cases this
    have := q' us (ht W' H' x)
    rw [e2'] at this; cases this
    subst ey; subst eH
    have x2 := ext_fz' (W := W') (o := .tup [v, u]) hT
    exact ⟨W'.fzA T, x2, fun hp s => st_fz s hT, T, _, rfl, fz_tup, _, _, rfl, (rv.ext x).ext x2.toLk, _, _, rfl, (ru.ext x).ext x2.toLk, rfl⟩, fun i hi => by
    rw [zipL_len, r.length, r'.length] at hi
    exact ⟨vs, us, hs W' H' x, ht W' H' x, by omega⟩⟩
theorem it_zipT {a b : Addr} {xs ys : List D} {vs us : List V} (hs : ∀ W' H', Lk W H W' H' → SqT G.K H' a vs) (ht : ∀ W' H', Lk W H W' H' → SqT G.K H' b us) (r : Reps G W H xs vs) (r' : Reps G W H ys us) : ItOk G W H (zipL xs ys) (RZ.ItzT G.K a b) := fun W' H' x =>
  ⟨fun i d e => by
    obtain ⟨d1, d2, e1, e1', rfl⟩ := zipL_get e
    obtain ⟨v, e2, rv⟩ := r.get e1
    obtain ⟨u, e2', ru⟩ := r'.get e1'
    refine ⟨⟨vs, us, v, u, hs W' H' x, ht W' H' x, e2, e2'⟩, fun y H2 ⟨T, z1, z2, ey, hT, eH, q, q'⟩ => ?_⟩
    have := q vs (hs W' H' x)
    rw [e2] at this; cases this
    have := q' us (ht W' H' x)
    rw [e2'] at this; cases this
    subst ey; subst eH
    have x2 := ext_fz' (W := W') (o := .tup [v, u]) hT
    exact ⟨W'.fzA T, x2, fun hp s => st_fz s hT, T, _, rfl, fz_tup, _, _, rfl, (rv.ext x).ext x2.toLk, _, _, rfl, (ru.ext x).ext x2.toLk, rfl⟩, fun i hi => by
    rw [zipL_len, r.length, r'.length] at hi
    exact ⟨vs, us, hs W' H' x, ht W' H' x, by omega⟩⟩
def iR1 (am : AM) : IM := fun ρ h => (am ρ h).bind fun xs h1 => match xs with
  | [.int j] => if -(2 ^ 62) ≤ j ∧ j < 2 ^ 62 then .ok (rngL 0 j.toNat) h1 else .bad
  | _ => .bad
def iR2 (am : AM) : IM := fun ρ h => (am ρ h).bind fun xs h1 => match xs with
  | [.int i, .int j] => if -(2 ^ 62) ≤ i ∧ i < 2 ^ 62 ∧ -(2 ^ 62) ≤ j ∧ j < 2 ^ 62 then .ok (rngL i (j - i).toNat) h1 else .bad
  | _ => .bad
theorem i_r1 {tg a : Expr} {am : AM} {p pos : Pos} (hm : X.mg "range" = none) (ha : PA X [a] (TrA F wx am)) (hg : L2.Gl X "range" := by rfl) (hs : starEach [a] X.env = [(false, eval a X.env)] := by rfl) : PI X tg (.Call (.Name "range" p) [a] [] pos) (TrI F wx (iR1 am)) :=
  PI.imp (pi_range1 hg hm ha hs) fun σ H R ⟨W, ρ, hp, g, q⟩ => ⟨W, ρ, hp, g, Fin.bind q fun xs hp1 W1 vs H1 x1 s1 r1 q1 => by
    split at q1
    · obtain ⟨v, rfl, rv⟩ := reps1 r1
      cases rv
      split at q1
      · rename_i hb
        exact ⟨_, rfl, hb.1, hb.2, q1 W1 _ H1 (Ext.refl _ _) s1 it_range⟩
      · exact q1.elim
    · exact q1.elim⟩
theorem i_r2 {tg a b : Expr} {am : AM} {p pos : Pos} (hm : X.mg "range" = none) (ha : PA X [a, b] (TrA F wx am)) (hg : L2.Gl X "range" := by rfl) (hs : starEach [a, b] X.env = [(false, eval a X.env), (false, eval b X.env)] := by rfl) (hs2 : starEach [b] X.env = [(false, eval b X.env)] := by rfl) : PI X tg (.Call (.Name "range" p) [a, b] [] pos) (TrI F wx (iR2 am)) :=
  PI.imp (pi_range2 hg hm ha hs hs2) fun σ H R ⟨W, ρ, hp, g, q⟩ => ⟨W, ρ, hp, g, Fin.bind q fun xs hp1 W1 vs H1 x1 s1 r1 q1 => by
    split at q1
    · obtain ⟨v, v2, rfl, rv, rv2⟩ := reps2 r1
      cases rv; cases rv2
      split at q1
      · rename_i hb
        exact ⟨_, _, rfl, hb, q1 W1 _ H1 (Ext.refl _ _) s1 it_range⟩
      · exact q1.elim
    · exact q1.elim⟩
def iEn (am : AM) : IM := fun ρ h => (am ρ h).bind fun xs h1 => match xs with
  | [.lst ds] => .ok (enumL 0 ds) h1
  | [.scr ds] => .ok (enumL 0 ds) h1
  | _ => .bad
theorem i_en {a : Expr} {am : AM} {p pos tpos : Pos} {elts : List Expr} {kk : Nat} (hK : F.G.K = X.K) (hm : X.mg "enumerate" = none) (ha : PA X [a] (TrA F wx am)) (hg : L2.Gl X "enumerate" := by rfl) (hs : starEach [a] X.env = [(false, eval a X.env)] := by rfl) : PI X (.Tuple elts kk tpos) (.Call (.Name "enumerate" p) [a] [] pos) (TrI F wx (iEn am)) :=
  PI.imp (pi_enum hg hm ha hs) fun σ H R ⟨W, ρ, hp, g, q⟩ => ⟨W, ρ, hp, g, Fin.bind q fun xs hp1 W1 vs H1 x1 s1 r1 q1 => by
    split at q1
    · obtain ⟨v, rfl, a, ws, rfl, t, rs⟩ := reps1 r1
      refine ⟨a, ws, rfl, SqL.of t.2, q1 W1 _ H1 (Ext.refl _ _) s1 ?_⟩
      rw [← hK]
      exact it_enum (fun W2 H2 l => SqL.of (t.ext l).2) rs
    · obtain ⟨v, rfl, a, ws, rfl, t, rs⟩ := reps1 r1
      refine ⟨a, ws, rfl, hK ▸ SqL.fz (K := F.G.K) t (Lk.refl _ _), q1 W1 _ H1 (Ext.refl _ _) s1 ?_⟩
      rw [← hK]
      exact it_enum (fun W2 H2 l => SqL.fz (K := F.G.K) t l) rs
    · exact q1.elim⟩
def iZp (am : AM) : IM := fun ρ h => (am ρ h).bind fun xs h1 => match xs with
  | [.lst ds, .lst es] => .ok (zipL ds es) h1
  | [.tup ds, .tup es] => .ok (zipL ds es) h1
  | _ => .bad
theorem i_zp {a b : Expr} {am : AM} {p pos tpos : Pos} {elts : List Expr} {kk : Nat} (hK : F.G.K = X.K) (hm : X.mg "zip" = none) (ha : PA X [a, b] (TrA F wx am)) (hg : L2.Gl X "zip" := by rfl) (hs : starEach [a, b] X.env = (false, eval a X.env) :: starEach [b] X.env := by rfl) (hpl : (backTo pos (starEach [b] X.env)).any (·.1) = false := by rfl) : PI X (.Tuple elts kk tpos) (.Call (.Name "zip" p) [a, b] [] pos) (TrI F wx (iZp am)) :=
  PI.imp (RZ.pi_zipA hg hm ha hs hpl) fun σ H R ⟨W, ρ, hp, g, q⟩ => ⟨W, ρ, hp, g, Fin.bind q fun xs hp1 W1 vs H1 x1 s1 r1 q1 => by
    split at q1
    · obtain ⟨v, v2, rfl, ⟨a, ws, rfl, t, rs⟩, ⟨b, zs, rfl, t2, rs2⟩⟩ := reps2 r1
      refine ⟨a, b, ws, zs, rfl, .inl ⟨SqL.of t.2, SqL.of t2.2, q1 W1 _ H1 (Ext.refl _ _) s1 ?_⟩⟩
      rw [← hK]
      exact it_zip (fun W2 H2 l => SqL.of (t.ext l).2) (fun W2 H2 l => SqL.of (t2.ext l).2) rs rs2
    · obtain ⟨v, v2, rfl, ⟨a, ws, rfl, t, rs⟩, ⟨b, zs, rfl, t2, rs2⟩⟩ := reps2 r1
      refine ⟨a, b, ws, zs, rfl, .inr ⟨hK ▸ t.sq, hK ▸ t2.sq, q1 W1 _ H1 (Ext.refl _ _) s1 ?_⟩⟩
      rw [← hK]
      exact it_zipT (fun W2 H2 l => (t.ext l).sq) (fun W2 H2 l => (t2.ext l).sq) rs rs2
    · exact q1.elim⟩

/-! ### for -/
def loopM (t : Tg) (b : SM) : List D → Rho → Hc → O
  | [], ρ, h => .nx ρ h
  | d :: ds, ρ, h => (match bindD t d ρ with
    | none => .bad
    | some ρ1 => (match b ρ1 h with
      | .nx ρ2 h2 => loopM t b ds ρ2 h2
      | .ct ρ2 h2 => loopM t b ds ρ2 h2
      | .bk ρ2 h2 => .nx ρ2 h2
      | o => o))
def sFor (t : Tg) (im : IM) (b : SM) : SM := fun ρ h => (im ρ h).toS ρ fun ds h1 => loopM t b ds ρ h1
theorem for_imp {t : Tg} {im : IM} {b : SM} {D : Ends} {σ : L2.St} {H : Hp} (h : TrS F wx (sFor t im b) D σ H) : tFor (TrI F wx im) (TrG F t) (TrS F wx b) D σ H := by
  obtain ⟨W, ρ, hp, g, h⟩ := h
  refine ⟨W, ρ, hp, g, FinS.bind g h fun ds hp1 W1 J H1 x1 g1 it h1 => ?_⟩
  refine ⟨fun i m σ H => m = ds.length - i ∧ i ≤ ds.length ∧ ∃ W ρ hp, Gd F W ρ hp σ H ∧ Lk W1 H1 W H ∧ FinS F wx W H D (loopM t b (ds.drop i) ρ hp), ⟨ds.length, rfl, Nat.zero_le _, W1, ρ, hp1, g1, Lk.refl _ _, by rw [List.drop_zero]; exact h1⟩, ?_⟩
  rintro i m σ2 H2 ⟨rfl, hi, W2, ρ2, hp2, g2, l2, f2⟩
  obtain ⟨it1, it2⟩ := it W2 H2 l2
  by_cases hlt : i < ds.length
  · refine .inr ?_
    obtain ⟨go, yl⟩ := it1 i ds[i] (List.getElem?_eq_getElem hlt)
    refine ⟨go, fun σ H => i + 1 ≤ ds.length ∧ ∃ W ρ hp, Gd F W ρ hp σ H ∧ Lk W1 H1 W H ∧ FinS F wx W H D (loopM t b (ds.drop (i + 1)) ρ hp), fun σ' H' q => ⟨ds.length - (i + 1), by omega, rfl, q.1, q.2⟩, fun x H3 y => ?_⟩
    obtain ⟨W3, x3, s3, r3⟩ := yl x H3 y
    rw [List.drop_eq_getElem_cons hlt] at f2
    simp only [loopM] at f2
    split at f2
    · exact f2.elim
    · rename_i ρ3 eb
      refine ⟨W3, ρ2, hp2, ds[i], ρ3, g2.ext x3 (s3 _ g2.st), r3, eb, fun σ4 g4 _ => ⟨W3, ρ3, hp2, g4, ?_⟩⟩
      have l3 := l2.trans x3.toLk
      have f3 := FinS.lk x3.toLk f2
      revert f3
      cases b ρ3 hp2 with
      | nx ρ5 hp5 => exact fun f3 W' σ' H' g' l' => ⟨hlt, W', ρ5, hp5, g', l3.trans l', FinS.lk l' f3⟩
      | ct ρ5 hp5 => exact fun f3 W' σ' H' g' l' => ⟨hlt, W', ρ5, hp5, g', l3.trans l', FinS.lk l' f3⟩
      | bk ρ5 hp5 => exact fun f3 => f3
      | rt d hp5 => exact fun f3 => f3
      | ex c ρ5 hp5 => exact fun f3 => f3
      | bad => exact fun f3 => f3
  · refine .inl ⟨it2 i (by omega), ?_⟩
    rw [List.drop_eq_nil_of_le (by omega)] at f2
    exact f2 W2 σ2 H2 g2 (Lk.refl _ _)
theorem s_for {tg iter : Expr} {body : List Stmt} {t : Tg} {im : IM} {b : SM} {pos : Pos} (hp : PassesOwn (model X.prog X.w) X.A X.env X.xe) (hc : X.calm = true) (hg : PG X tg (TrG F t)) (hi : PI X tg iter (TrI F wx im)) (hb : PSs X body (TrS F wx b))
    (hs : ∀ x, foldedSetIterable iter X.env x = pure x := by intro _; rfl) : PS X (.For tg iter body [] pos) (TrS F wx (sFor t im b)) := PS.imp (ps_for hp hc hi hg hb hs) fun _ _ _ => for_imp

/-! ### while -/
def whileM (t : TM) (b : SM) : Nat → Rho → Hc → O := Nat.rec (fun _ _ => .bad) fun _ again ρ h => (t ρ h).toS ρ fun c h1 => if c = true then (match b ρ h1 with
  | .nx ρ2 h2 => again ρ2 h2
  | .ct ρ2 h2 => again ρ2 h2
  | .bk ρ2 h2 => .nx ρ2 h2
  | o => o) else .nx ρ h1
theorem whileM_succ (t : TM) (b : SM) (n : Nat) (ρ : Rho) (h : Hc) : whileM t b (n + 1) ρ h = (t ρ h).toS ρ fun c h1 => if c = true then (match b ρ h1 with
  | .nx ρ2 h2 => whileM t b n ρ2 h2
  | .ct ρ2 h2 => whileM t b n ρ2 h2
  | .bk ρ2 h2 => .nx ρ2 h2
  | o => o) else .nx ρ h1 := rfl
/-- n: turns at most -/
def sWhile (n : Nat) (t : TM) (b : SM) : SM := fun ρ h => whileM t b n ρ h
theorem while_imp {n : Nat} {t : TM} {b : SM} {D : Ends} {σ : L2.St} {H : Hp} (h : TrS F wx (sWhile n t b) D σ H) : tWhile (TrT F wx t) (TrS F wx b) D σ H := by
  obtain ⟨W, ρ, hp, g, h⟩ := h
  refine ⟨fun m σ H => ∃ W ρ hp, Gd F W ρ hp σ H ∧ FinS F wx W H D (whileM t b m ρ hp), ⟨n, W, ρ, hp, g, h⟩, ?_⟩
  rintro m σ2 H2 ⟨W2, ρ2, hp2, g2, f2⟩
  cases m with
  | zero => exact f2.elim
  | succ m =>
    rw [whileM_succ] at f2
    refine ⟨W2, ρ2, hp2, g2, FinS.bind g2 f2 fun c hp3 W3 v H3 x3 g3 r3 f3 => ?_⟩
    subst r3
    cases c with
    | false => rw [if_neg Bool.false_ne_true] at f3 ⊢; exact f3 W3 σ2 H3 g3 (Lk.refl _ _)
    | true =>
      rw [if_pos rfl] at f3 ⊢
      refine ⟨fun σ H => ∃ W ρ hp, Gd F W ρ hp σ H ∧ FinS F wx W H D (whileM t b m ρ hp), fun σ' H' q => ⟨m, Nat.lt_succ_self m, q⟩, W3, ρ2, hp3, g3, ?_⟩
      revert f3
      cases b ρ2 hp3 with
      | nx ρ5 hp5 => exact fun f3 W' σ' H' g' l' => ⟨W', ρ5, hp5, g', FinS.lk l' f3⟩
      | ct ρ5 hp5 => exact fun f3 W' σ' H' g' l' => ⟨W', ρ5, hp5, g', FinS.lk l' f3⟩
      | bk ρ5 hp5 => exact fun f3 => f3
      | rt d hp5 => exact fun f3 => f3
      | ex c ρ5 hp5 => exact fun f3 => f3
      | bad => exact fun f3 => f3
theorem s_while {c : Expr} {body : List Stmt} {n : Nat} {t : TM} {b : SM} {pos : Pos} (hp : PassesOwn (model X.prog X.w) X.A X.env X.xe) (hc : PT X c (TrT F wx t)) (hb : PSs X body (TrS F wx b)) : PS X (.While c body [] pos) (TrS F wx (sWhile n t b)) := PS.imp (ps_while hp hc hb) fun _ _ _ => while_imp
end
end Z

/-! Z12: list comprehensions -/
namespace Z
open PySem PySem.Spec PyProof.Rows L2

def R.nox {α : Type} : R α → R α
  | .ok a h => .ok a h
  | _ => .bad
@[simp] theorem R.nox_ok {α : Type} (a : α) (h : Hc) : (R.ok a h).nox = .ok a h := rfl
@[simp] theorem R.nox_ex {α : Type} (c : Nat) (h : Hc) : (R.ex c h : R α).nox = .bad := rfl
@[simp] theorem R.nox_bad {α : Type} : (R.bad : R α).nox = .bad := rfl
abbrev wx0 : WX := fun _ _ _ _ => False
def wipeR (ρ : Rho) : List Nat → Rho
  | [] => ρ
  | v :: vs => (wipeR ρ vs).set v .u
def tYesM : TM := fun _ h => .ok true h
def lcLoop (t : Tg) (tt : TM) (em : EM) (ρ : Rho) : List D → Hc → R (List D)
  | [], h => .ok [] h
  | d :: ds, h => (match bindD t d ρ with
    | none => .bad
    | some ρ1 => (tt ρ1 h).nox.bind fun c h1 => if c = true then (em ρ1 h1).nox.bind fun y h2 => (lcLoop t tt em ρ ds h2).bind fun ys h3 => .ok (y :: ys) h3 else lcLoop t tt em ρ ds h1)
/-- vs: the slots of the comprehension's own names -/
def eLc (t : Tg) (vs : List Nat) (im : IM) (tt : TM) (em : EM) : EM := fun ρ h => (im ρ h).bind fun ds h1 => if ds.length ≤ 16777216 then (lcLoop t tt em (wipeR ρ vs) ds h1).bind fun ys h2 => .ok (.lst ys) h2 else .bad
section
variable {F : Fr} {X : Cx} {wx : WX} {σ : L2.St} {G : Gl} {W W' W1 W2 : Wd} {H H' H1 H2 : Hp} {hp hp' : Hc} {E : Ends} {ρ : Rho}
theorem Gd.setU {i : Nat} (g : Gd F W ρ hp σ H) : Gd F W (ρ.set i .u) hp (σ.set i none) H where
  x0 := g.x0
  st := g.st
  env := {
    len := by rw [List.length_set, List.length_set]; exact g.env.len
    at_ := fun j s ov h1 h2 => by
      rcases set_some h1 with ⟨e1, e2, hl⟩ | ⟨n, h1⟩
      · subst e2; trivial
      · rw [List.getElem?_set_ne (Ne.symm n)] at h2
        exact g.env.at_ j s ov h1 h2
    ap := fun j k a h1 h2 => g.env.ap j k a (owns_setU h1).2 (owns_setU h2).2
    nw := fun j a h => g.env.nw j a (owns_setU h).2 }
theorem Gd.wipe (g : Gd F W ρ hp σ H) : ∀ vs : List Nat, Gd F W (wipeR ρ vs) hp (L2.wipe σ vs) H
  | [] => g
  | _ :: vs => (Gd.wipe g vs).setU
theorem wipe_sub : ∀ {ws vs : List Nat} {σ : L2.St}, (∀ i ∈ ws, vs.contains i = true) → L2.wipe (L2.wipe σ ws) vs = L2.wipe σ vs
  | [], _, _, _ => rfl
  | w :: ws, vs, σ, h => by
    show L2.wipe ((L2.wipe σ ws).set w none) vs = _
    rw [wipe_set (h w List.mem_cons_self)]
    exact wipe_sub fun i hi => h i (List.mem_cons_of_mem _ hi)
theorem wipe_wipe {vs : List Nat} : L2.wipe (L2.wipe σ vs) vs = L2.wipe σ vs := wipe_sub fun i hi => by simpa using hi
theorem Fin.bindX {α β α' β' : Type} {rel : Wd → Hp → α → β → Prop} {rel' : Wd → Hp → α' → β' → Prop} {Q : β → Hp → Prop} {Q' : β' → Hp → Prop} {r : R α} {k : α → Hc → R α'} {Ws : Wd} {Hs : Hp} {σ2 : L2.St} (h : Fin F wx σ rel' Ws Hs Q' (r.nox.bind k))
    (nx : ∀ d hp' W' v H', Ext W H W' H' → St0 F.G W' H' hp' → rel W' H' d v → Fin F wx σ rel' Ws Hs Q' (k d hp') → Q v H') : Fin F wx0 σ2 rel W H Q r := by
  cases r with
  | ok d hp => exact fun W2 v H2 x2 s2 r2 => nx d hp W2 v H2 x2 s2 r2 h
  | ex c hp => exact h.elim
  | bad => exact h
/-- a list that is being filled -/
structure Fill (W : Wd) (H : Hp) (p : Addr) (vs : List V) : Prop where
  e : H p = some (.lst vs)
  f : ¬ W.fz p
  m : ∀ n, W.m n ≠ some p
theorem Fill.ext {p : Addr} {vs : List V} (h : Fill W H p vs) (x : Ext W H W' H') : Fill W' H' p vs :=
  ⟨x.k p _ h.e h.m (fun ps z => by cases z), fun z => (x.nf p z).elim h.f fun q => (by rw [h.e] at q; cases q), fun n z => (x.nm n p z).elim (h.m n) fun q => (by rw [h.e] at q; cases q)⟩
theorem ext_outN {p : Addr} {o' : HO} (x : Ext W H W' H') (e : H p = none) : Ext W H W' (upd H' p o') where
  m := x.m
  f := x.f
  l := fun a φ h => by rw [upd_ne (ne_of_none h e)]; exact x.l a φ h
  fk := fun a o h q n => by rw [upd_ne (ne_of_none q e)]; exact x.fk a o h q n
  k := fun a o h hn ht => by rw [upd_ne (ne_of_none h e)]; exact x.k a o h hn ht
  t := fun a h => by
    unfold upd
    split
    · simp
    · exact x.t a h
  nf := x.nf
  nm := x.nm
theorem Fill.start {p : Addr} (s : St0 G W H hp) (e : H p = none) : Ext W H W (upd H p (.lst [])) ∧ St0 G W (upd H p (.lst [])) hp ∧ Fill W (upd H p (.lst [])) p [] :=
  ⟨ext_own s e, st_own s e, upd_same, fun z => s.ft p z e, fun n z => s.mt z e⟩
theorem Fill.put {p : Addr} {vs us : List V} (h : Fill W H p vs) (s : St0 G W H hp) : St0 G W (upd H p (.lst us)) hp ∧ Fill W (upd H p (.lst us)) p us :=
  ⟨st_out s h.e h.f h.m (fun ps z => by cases z) (fun q z => by unfold LamX.CodeO at z; cases z) (fun φ z => by cases z), upd_same, h.f, h.m⟩
theorem lc_imp {t : Tg} {vs : List Nat} {im : IM} {tt : TM} {em : EM} {Q : VK} (ht : t.inn vs = true) (h : TrN F wx (eLc t vs im tt em) σ H Q) : tLc (TrI F wx im) (TrG F t) (TrT F wx0 tt) (TrE F wx0 em) vs σ H Q := by
  obtain ⟨W, ρ, hp, g, h⟩ := h
  refine ⟨W, ρ, hp, g, Fin.bindN h fun ds hp1 W1 J H1 x1 s1 it h1 => fun p hp0 => ?_⟩
  by_cases hlen : ds.length ≤ 16777216
  case neg => rw [if_neg hlen] at h1; exact h1.elim
  rw [if_pos hlen] at h1
  have n0 : H p = none := Classical.byContradiction fun q => x1.t p q hp0
  obtain ⟨xs, ss, fs⟩ := Fill.start s1 hp0
  refine ⟨fun i m H' => m = ds.length - i ∧ i ≤ ds.length ∧ ∃ W' hp' acc us, Ext W1 H1 W' H' ∧ St0 F.G W' H' hp' ∧ Fill W' H' p us ∧ Reps F.G W' H' acc us ∧ acc.length ≤ i ∧
    Fin F wx σ (RepN F.G H) W H Q ((lcLoop t tt em (wipeR ρ vs) (ds.drop i) hp').bind fun ys h' => .ok (.lst (acc ++ ys)) h'), ⟨ds.length, rfl, Nat.zero_le _, W1, hp1, [], [], xs, ss, fs, rfl, Nat.le_refl _, by rw [List.drop_zero]; exact h1⟩, ?_⟩
  rintro i m H3 ⟨rfl, hi, W3, hp3, acc, us, x3, s3, f3, r3, hacc, q3⟩
  obtain ⟨it1, it2⟩ := it W3 H3 x3.toLk
  by_cases hlt : i < ds.length
  · refine .inr ?_
    obtain ⟨go, yl⟩ := it1 i ds[i] (List.getElem?_eq_getElem hlt)
    refine ⟨go, fun H' => i + 1 ≤ ds.length ∧ ∃ W' hp' acc us, Ext W1 H1 W' H' ∧ St0 F.G W' H' hp' ∧ Fill W' H' p us ∧ Reps F.G W' H' acc us ∧ acc.length ≤ i + 1 ∧
      Fin F wx σ (RepN F.G H) W H Q ((lcLoop t tt em (wipeR ρ vs) (ds.drop (i + 1)) hp').bind fun ys h' => .ok (.lst (acc ++ ys)) h'), fun H' q => ⟨ds.length - (i + 1), by omega, rfl, q.1, q.2⟩, fun x H4 y => ?_⟩
    obtain ⟨W4, x4, s4, r4⟩ := yl x H4 y
    rw [List.drop_eq_getElem_cons hlt] at q3
    simp only [lcLoop] at q3
    split at q3
    · exact q3.elim
    · rename_i ρ4 eb
      have s4 := s4 hp3 s3
      have x4' := x3.trans x4
      have gw := (g.ext (x1.trans x4') s4).wipe vs
      refine ⟨W4, wipeR ρ vs, hp3, ds[i], ρ4, gw, r4, eb, fun σ4 g4 o4 => ⟨(o4 vs ht).trans wipe_wipe, W4, ρ4, hp3, g4, ?_⟩⟩
      have f4 := f3.ext x4
      have r4' := r3.ext x4.toLk
      have q4 : Fin F wx σ (RepN F.G H) W H Q ((tt ρ4 hp3).nox.bind fun c h1 => (if c = true then (em ρ4 h1).nox.bind fun y h2 => (lcLoop t tt em (wipeR ρ vs) (ds.drop (i + 1)) h2).bind fun ys h3 => .ok (y :: ys) h3 else lcLoop t tt em (wipeR ρ vs) (ds.drop (i + 1)) h1).bind fun ys h' => .ok (.lst (acc ++ ys)) h') := by
        cases hz : tt ρ4 hp3 with
        | ok c h5 => rw [hz] at q3; exact q3
        | ex c h5 => rw [hz] at q3; exact q3
        | bad => rw [hz] at q3; exact q3
      refine Fin.bindX q4 fun c hp5 W5 b H5 x5 s5 r5 q5 => ?_
      subst r5
      cases c with
      | false =>
        rw [if_neg Bool.false_ne_true] at q5 ⊢
        exact ⟨hlt, W5, hp5, acc, us, x4'.trans x5, s5, f4.ext x5, r4'.ext x5.toLk, Nat.le_succ_of_le hacc, q5⟩
      | true =>
        rw [if_pos rfl] at q5 ⊢
        have q6 : Fin F wx σ (RepN F.G H) W H Q ((em ρ4 hp5).nox.bind fun y h2 => (lcLoop t tt em (wipeR ρ vs) (ds.drop (i + 1)) h2).bind fun ys h3 => .ok (.lst ((acc ++ [y]) ++ ys)) h3) := by
          cases hz : em ρ4 hp5 with
          | ok c h5 =>
            rw [hz] at q5
            have q5 : Fin F wx σ (RepN F.G H) W H Q (((lcLoop t tt em (wipeR ρ vs) (ds.drop (i + 1)) h5).bind fun ys h3 => .ok (c :: ys) h3).bind fun ys h' => .ok (.lst (acc ++ ys)) h') := q5
            show Fin F wx σ (RepN F.G H) W H Q ((lcLoop t tt em (wipeR ρ vs) (ds.drop (i + 1)) h5).bind fun ys h3 => .ok (.lst ((acc ++ [c]) ++ ys)) h3)
            revert q5
            cases lcLoop t tt em (wipeR ρ vs) (ds.drop (i + 1)) h5 with
            | ok ys h7 =>
              intro q5
              show Fin F wx σ (RepN F.G H) W H Q (.ok (.lst ((acc ++ [c]) ++ ys)) h7)
              rw [List.append_assoc]
              exact q5
            | ex c h7 => exact fun q5 => q5
            | bad => exact fun q5 => q5
          | ex c h5 => rw [hz] at q5; exact q5
          | bad => rw [hz] at q5; exact q5
        refine ⟨W5, ρ4, hp5, g4.ext x5 s5, Fin.bindX q6 fun y hp7 W7 v H7 x7 s7 r7 q7 => ?_⟩
        have f7 := (f4.ext x5).ext x7
        have r7' := (r4'.ext x5.toLk).ext x7.toLk
        obtain ⟨s8, f8⟩ := f7.put (us := us ++ [v]) s7
        refine ⟨us, f7.e, ?_, hlt, W7, hp7, acc ++ [y], us ++ [v], ext_outN ((x4'.trans x5).trans x7) hp0, s8, f8, Reps.ext (lk_out f7.f fun φ z => by rw [f7.e] at z; cases z) (r7'.append (Reps.one r7)), ?_, q7⟩
        · rw [← r7'.length]
          exact lim_lt (by omega)
        · rw [List.length_append, List.length_singleton]
          omega
  · refine .inl ⟨it2 i (by omega), ?_⟩
    rw [List.drop_eq_nil_of_le (by omega)] at q3
    have q3 : Fin F wx σ (RepN F.G H) W H Q (.ok (.lst (acc ++ [])) hp3) := q3
    rw [List.append_nil] at q3
    exact q3 W3 _ H3 (x1.trans x3) s3 ⟨p, us, rfl, f3.e, r3, n0, f3.f, f3.m⟩
theorem t_yes : PTs X [] (TrT F wx tYesM) := ⟨fun p s σ H Q I ⟨W, ρ, hp, g, h⟩ => (pts_nil (X := X)).run p s σ H Q I (Fin.here h g.st rfl)⟩
section
variable {elt tg iter : Expr} {ifs : List Expr} {scope : Scope} {own : List (Str × Nat)} {pos : Pos} {t : Tg} {im : IM} {tt : TM} {em : EM}
theorem n_lc (own : List (Str × Nat)) (hc : X.calm = true) (hN : X.N.Nodup) (hi : PI X tg iter (TrI F wx im)) (ok : BlkOk X.N X.env.scope scope own)
    (hg : ∀ (s : Shared) (H : Hp) (C : Addr) (cl : List (Str × Addr)) (fp : List Addr), PG (X.blk s H scope (compEnvC scope cl C X.env) fp) tg (TrG F t))
    (ht : ∀ (s : Shared) (H : Hp) (C : Addr) (cl : List (Str × Addr)) (fp : List Addr), PTs (X.blk s H scope (compEnvC scope cl C X.env) fp) ifs (TrT F wx0 tt))
    (he : ∀ (s : Shared) (H : Hp) (C : Addr) (cl : List (Str × Addr)) (fp : List Addr), PE (X.blk s H scope (compEnvC scope cl C X.env) fp) elt (TrE F wx0 em)) (hv : t.inn (own.map (·.2)) = true := by rfl) (hs : ∀ x, foldedSetIterable iter X.env x = pure x := by intro _; rfl) :
    PE X (.ListComp elt [⟨tg, iter, ifs, 0⟩] scope pos) (TrN F wx (eLc t (own.map (·.2)) im tt em)) := PE.imp (pe_lc hc hN hi ok hg ht he hs) fun σ H Q h => lc_imp hv h
/-- name = [..] on one line -/
theorem s_lc {i : Nat} {y : Str} {py spos : Pos} (fz : Bool) (own : List (Str × Nat)) (hc : X.calm = true) (hN : X.N.Nodup) (hi : PI X tg iter (TrI F wx im)) (ok : BlkOk X.N X.env.scope scope own)
    (hg : ∀ (s : Shared) (H : Hp) (C : Addr) (cl : List (Str × Addr)) (fp : List Addr), PG (X.blk s H scope (compEnvC scope cl C X.env) fp) tg (TrG F t))
    (ht : ∀ (s : Shared) (H : Hp) (C : Addr) (cl : List (Str × Addr)) (fp : List Addr), PTs (X.blk s H scope (compEnvC scope cl C X.env) fp) ifs (TrT F wx0 tt))
    (he : ∀ (s : Shared) (H : Hp) (C : Addr) (cl : List (Str × Addr)) (fp : List Addr), PE (X.blk s H scope (compEnvC scope cl C X.env) fp) elt (TrE F wx0 em)) (hv : t.inn (own.map (·.2)) = true := by rfl) (hy : X.N[i]? = some y := by rfl) (hyl : X.env.scope.names.lookup y = some .local := by rfl)
    (hsw : swapsWith (.ListComp elt [⟨tg, iter, ifs, 0⟩] scope pos) (some (.Name y py)) spos.line X.env = pure true := by exact sw_true rfl rfl rfl rfl) (hs : ∀ x, foldedSetIterable iter X.env x = pure x := by intro _; rfl) :
    PS X (.Assign [.Name y py] (.ListComp elt [⟨tg, iter, ifs, 0⟩] scope pos) spos) (TrS F wx (if fz = true then sSet i (eLc t (own.map (·.2)) im tt em) else sSetN i (eLc t (own.map (·.2)) im tt em))) :=
  PS.imp (ps_setLc hc hN hy hyl hsw hi ok hg ht he hs) fun D σ H h => by
    have main : ∀ Q : VK, TrN F wx (eLc t (own.map (·.2)) im tt em) σ H Q → tLc (TrI F wx im) (TrG F t) (TrT F wx0 tt) (TrE F wx0 em) (own.map (·.2)) σ H Q := fun Q h => lc_imp hv h
    cases fz with
    | false => exact main _ (setN_imp h)
    | true =>
      refine main _ ?_
      obtain ⟨W, ρ, hp, g, h⟩ := set_imp h
      exact ⟨W, ρ, hp, g, Fin.freeze h⟩
end
end
end Z

/-! Z13: in; texts' methods; op= ; stores at places; raise, try -/
namespace Z
open PySem PySem.Spec PyProof.Rows L2

section
variable {F : Fr} {X : Cx} {wx : WX} {σ : L2.St} {G : Gl} {W W' W1 W2 : Wd} {H H' H1 H2 : Hp} {hp hp' : Hc} {E : Ends} {ρ : Rho}
/-! ### in -/
def flatD : D → Bool
  | .non | .bl _ | .int _ | .str _ => true
  | _ => false
def anyEq (x : D) (ds : List D) : Bool := ds.any fun z => z.eqv x
def inD (neg : Bool) (x y : D) (h : Hc) : R D := match x, unbox h y with
  | .str [c], .str z => .ok (.bl (if neg then !decide (c ∈ z) else decide (c ∈ z))) h
  | x, .lst ds => if pl 12 x && pls 11 ds then .ok (.bl (if neg then !anyEq x ds else anyEq x ds)) h else .bad
  | x, .tup ds => if flatD x && ds.all flatD then .ok (.bl (if neg then !anyEq x ds else anyEq x ds)) h else .bad
  | _, _ => .bad
def opIn := inD false
def opNotIn := inD true
def rInAll (K : PySem.W.Frag) (neg : Bool) : R2 := fun x y H Q => (∃ (c : Nat) (z : Str), x = .str ⟨#[c]⟩ ∧ y = .str z ∧ Q (.bl (if neg then !decide (c ∈ z.cps.toList) else decide (c ∈ z.cps.toList))) H) ∨
  (∃ d ds, Dp K H x d ∧ Dp K H y (.list ds) ∧ SeqAt.shaped d = true ∧ SeqAt.shaped (.list ds) = true ∧ Q (.bl (if neg then !ds.any fun z => PyData.eqv z d else ds.any fun z => PyData.eqv z d)) H) ∨ rIn K neg x y H Q
theorem o_in (hu : X.A.units + 65 < cLine) : OpR X (compareOp .In) (rInAll X.K false) := op_in_sign.or ((op_inD hu).or op_in_seq)
theorem o_notIn (hu : X.A.units + 65 < cLine) : OpR X (compareOp .NotIn) (rInAll X.K true) := op_notIn_sign.or ((op_notInD hu).or op_notIn_seq)
theorem any_toP {n m : Nat} {x : D} (h : pl n x = true) : ∀ {ds : List D}, pls m ds = true → (toPs ds).any (fun z => PyData.eqv z (toP x)) = anyEq x ds
  | [], _ => rfl
  | d :: ds, k => by
    simp only [pls, Bool.and_eq_true] at k
    simp only [toPs, List.any_cons, anyEq]
    rw [eqv_toP m n d x k.1 h]
    have := any_toP h k.2
    unfold anyEq at this
    rw [this]
theorem flat_rep {d : D} {v : V} (h : flatD d = true) (r : Rep G W H d v) : flatV v = true := by
  cases d with
  | non => cases r; rfl
  | bl _ => cases r; rfl
  | int _ => cases r; rfl
  | str _ => obtain ⟨rfl, _⟩ := r; rfl
  | _ => simp [flatD] at h
theorem flat_eq {x y : D} {v u : V} (hx : flatD x = true) (hy : flatD y = true) (rx : Rep G W H x v) (ry : Rep G W H y u) : eqV v u = x.eqv y := by
  cases x with
  | non => cases rx; cases y <;> first | (cases ry; rfl) | (obtain ⟨rfl, _⟩ := ry; rfl) | (simp [flatD] at hy)
  | bl b => cases rx; cases y <;> first | (cases ry; simp only [eqV, D.eqv]; first | rfl | (cases b <;> rfl)) | (obtain ⟨rfl, _⟩ := ry; rfl) | (simp [flatD] at hy)
  | int i => cases rx; cases y <;> first | (cases ry; simp only [eqV, D.eqv]; first | rfl | (rename_i b; cases b <;> rfl)) | (obtain ⟨rfl, _⟩ := ry; rfl) | (simp [flatD] at hy)
  | str s => obtain ⟨rfl, _⟩ := rx; cases y <;> first | (cases ry; rfl) | (obtain ⟨rfl, _⟩ := ry; simp only [eqV, D.eqv]; exact sbeq _ _) | (simp [flatD] at hy)
  | _ => simp [flatD] at hx
theorem flat_all : ∀ {ds : List D} {vs : List V}, ds.all flatD = true → Reps G W H ds vs → vs.all flatV = true
  | [], _, _, r => by cases r; rfl
  | d :: ds, _, h, ⟨v, r, e, q, t⟩ => by
    rw [List.all_cons, Bool.and_eq_true] at h
    rw [e, List.all_cons, flat_rep h.1 q, flat_all h.2 t]
    rfl
theorem flat_any {x : D} {v : V} (hx : flatD x = true) (rx : Rep G W H x v) : ∀ {ds : List D} {vs : List V}, ds.all flatD = true → Reps G W H ds vs → inV v vs = anyEq x ds
  | [], _, _, r => by cases r; rfl
  | d :: ds, _, h, ⟨u, r, e, q, t⟩ => by
    rw [List.all_cons, Bool.and_eq_true] at h
    rw [e]
    unfold inV anyEq
    rw [List.any_cons, List.any_cons, flat_eq h.1 hx q rx]
    have := flat_any hx rx h.2 t
    unfold inV anyEq at this
    rw [this]
theorem RepB.flat {d : D} {v : V} (h : flatD d = true) (r : RepB G W H d v) : Rep G W H d v := by
  cases d with
  | lst _ => simp [flatD] at h
  | dic _ => simp [flatD] at h
  | dit _ => simp [flatD] at h
  | _ => exact r
theorem pl_unbox {n : Nat} {x : D} (h : pl n x = true) : unbox hp x = x := by
  cases x <;> first | rfl | simp [pl] at h
theorem s_inD (hK : F.G.K = X.K) (neg : Bool) : OpS F (RepB F.G) (RepB F.G) (inD neg) (rInAll X.K neg) := by
  intro wx σ W H hp x y v u Q s rx ry h
  have uy := unbox_rep s ry
  unfold inD at h
  split at h
  · rename_i c z e1
    rw [e1] at uy
    obtain ⟨rfl, _⟩ := rx
    obtain ⟨rfl, _⟩ := uy
    exact .inl ⟨c, _, rfl, rfl, Fin.here h s rfl⟩
  · rename_i x' ds e1
    rw [e1] at uy
    split at h
    · rename_i hc
      rw [Bool.and_eq_true] at hc
      have ux := unbox_rep s rx
      rw [pl_unbox hc.1] at ux
      obtain ⟨a1, a2, a3⟩ := dp_of 12 _ v hc.1 ux
      have hl : pl 12 (.lst ds) = true := by simpa [pl] using hc.2
      obtain ⟨b1, b2, b3⟩ := dp_of 12 (.lst ds) u hl uy
      refine .inr (.inl ⟨_, toPs ds, hK ▸ a1, hK ▸ b1, shaped_of a2 a3, shaped_of b2 b3, ?_⟩)
      rw [any_toP hc.1 hc.2]
      exact Fin.here h s rfl
    · exact h.elim
  · rename_i x' ds e1
    rw [e1] at uy
    split at h
    · rename_i hc
      rw [Bool.and_eq_true] at hc
      obtain ⟨p, vs, rfl, t, rs⟩ := uy
      have rx' := RepB.flat hc.1 rx
      refine .inr (.inr ⟨p, vs, rfl, .inr (hK ▸ t.sq), flat_rep hc.1 rx', flat_all hc.2 rs, ?_⟩)
      rw [flat_any hc.1 rx' hc.2 rs]
      exact Fin.here h s rfl
    · exact h.elim
  · exact h.elim
/-! ### methods of texts with one argument -/
def isStr : D → Bool
  | .str _ => true
  | _ => false
def eM1 (b : D → D → Hc → R D) (o a : EM) : EM := fun ρ h => (o ρ h).bind fun x h1 => if isStr x then (a ρ h1).bind fun y h2 => b x y h2 else .bad
def M1S (F : Fr) (b : D → D → Hc → R D) (r : V → List V → Hp → VK → Prop) : Prop :=
  ∀ (wx : WX) (σ : L2.St) (W : Wd) (H : Hp) (hp : Hc) (x y : D) (v u : V) (Q : VK), St0 F.G W H hp → Rep F.G W H x v → RepB F.G W H y u → Fin F wx σ (Rep F.G) W H Q (b x y hp) → r v [u] H Q
theorem m1_imp {b : D → D → Hc → R D} {r : V → List V → Hp → VK → Prop} {eo ea : EM} (hs : M1S F b r) {Q : VK} (h : TrE F wx (eM1 b eo ea) σ H Q) : tM1 r (TrE F wx eo) (TrB F wx ea) σ H Q := by
  obtain ⟨W, ρ, hp, g, h⟩ := h
  refine ⟨W, ρ, hp, g, Fin.bind h fun x hp1 W1 v H1 x1 s1 r1 h1 => ?_⟩
  split at h1
  · rename_i hi
    cases x with
    | str z =>
      refine ⟨⟨_, r1.1⟩, W1, ρ, hp1, g.ext x1 s1, Fin.bind h1 fun y hp2 W2 u H2 x2 s2 r2 h2 => hs wx σ W2 H2 hp2 _ y v u Q s2 (r1.ext x2.toLk) r2 h2⟩
    | _ => simp [isStr] at hi
  · exact h1.elim
theorem e_m1 {id : String} {name : Str} {apos pos : Pos} {b : D → D → Hc → R D} {r : V → List V → Hp → VK → Prop} {o e : Expr} {eo ea : EM} (hs : M1S F b r) (slot : Slot "str" name id) (ty : typeOf (.builtin id) = pure (.type "method_descriptor")) (rule : MtR X id r) (ho : PE X o (TrE F wx eo)) (he : PE X e (TrB F wx ea))
    (hst : starEach [e] X.env = [(false, eval e X.env)] := by rfl) (hbase : attributeBase o name X.env (eval o X.env) = eval o X.env := by rfl) (hline : (apos.endLine == pos.line) = true := by rfl) : PE X (.Call (.Attribute o name apos) [e] [] pos) (TrE F wx (eM1 b eo ea)) :=
  PE.imp (pe_m1 slot ty rule ho he hst hbase hline) fun σ H Q h => m1_imp hs h
def strs? : List D → Option (List (List Nat))
  | [] => some []
  | .str s :: r => (strs? r).map (s :: ·)
  | _ :: _ => none
theorem strs_rep : ∀ {ds : List D} {vs : List V} {ns : List (List Nat)}, strs? ds = some ns → Reps G W H ds vs → vs = (ns.map SX.S).map V.str ∧ ∀ n ∈ ns, okS n
  | [], _, _, e, r => by cases r; cases e; exact ⟨rfl, fun n h => by simp at h⟩
  | .str s :: ds, _, _, e, ⟨v, r, rfl, h, t⟩ => by
    simp only [strs?, Option.map_eq_some_iff] at e
    obtain ⟨ns, e1, rfl⟩ := e
    obtain ⟨rfl, o⟩ := h
    obtain ⟨a, b⟩ := strs_rep e1 t
    rw [a]
    exact ⟨rfl, fun n h => by
      rcases List.mem_cons.mp h with z | z
      · rw [z]; exact o
      · exact b n z⟩
theorem okS_join {a : List Nat} (h : okS a) : ∀ {ps : List (List Nat)}, (∀ p ∈ ps, okS p) → okS (TL.joinL a ps)
  | [], _ => rfl
  | [p], k => k p (by simp)
  | p :: q :: r, k => okS_app (k p (by simp)) (okS_app h (okS_join h fun x hx => k x (List.mem_cons_of_mem _ hx)))
def mJoin (x y : D) (h : Hc) : R D := match x, unbox h y with
  | .str a, .lst ds => (match strs? ds with
    | some ps => if (ps.map List.length).sum + ps.length * a.length ≤ 16777216 then .ok (.str (TL.joinL a ps)) h else .bad
    | none => .bad)
  | .str a, .tup ds => (match strs? ds with
    | some ps => if (ps.map List.length).sum + ps.length * a.length ≤ 16777216 then .ok (.str (TL.joinL a ps)) h else .bad
    | none => .bad)
  | _, _ => .bad
def rJoin (K : PySem.W.Frag) : V → List V → Hp → VK → Prop := fun x xs H Q => ∃ a p, ∃ ys : List Str, x = .str a ∧ xs = [.ref p] ∧ (SqL K H p (ys.map V.str) ∨ SqT K H p (ys.map V.str)) ∧ (ys.map (·.length)).sum + ys.length * a.length ≤ 16777216 ∧ Q (.str (Txt.join a ys)) H
theorem sum_S (ps : List (List Nat)) : ((ps.map SX.S).map (·.length)).sum = (ps.map List.length).sum := by
  rw [List.map_map]
  congr 1
theorem s_join (hK : F.G.K = X.K) : M1S F mJoin (rJoin X.K) := by
  intro wx σ W H hp x y v u Q s rx ry h
  have uy := unbox_rep s ry
  unfold mJoin at h
  split at h
  · rename_i a ds e1
    rw [e1] at uy
    obtain ⟨rfl, o⟩ := rx
    obtain ⟨p, vs, rfl, t, rs⟩ := uy
    split at h
    · rename_i ps e2
      obtain ⟨rfl, ok⟩ := strs_rep e2 rs
      split at h
      · rename_i hl
        refine ⟨_, p, ps.map SX.S, rfl, rfl, .inl (SqL.of t), ?_, ?_⟩
        · rw [sum_S, List.length_map, str_len]; exact hl
        · rw [SX.join_S]; exact Fin.here h s ⟨rfl, okS_join o ok⟩
      · exact h.elim
    · exact h.elim
  · rename_i a ds e1
    rw [e1] at uy
    obtain ⟨rfl, o⟩ := rx
    obtain ⟨p, vs, rfl, t, rs⟩ := uy
    split at h
    · rename_i ps e2
      obtain ⟨rfl, ok⟩ := strs_rep e2 rs
      split at h
      · rename_i hl
        refine ⟨_, p, ps.map SX.S, rfl, rfl, .inr (hK ▸ t.sq), ?_, ?_⟩
        · rw [sum_S, List.length_map, str_len]; exact hl
        · rw [SX.join_S]; exact Fin.here h s ⟨rfl, okS_join o ok⟩
      · exact h.elim
    · exact h.elim
  · exact h.elim
/-- split by a text of small signs -/
def mSplit (x y : D) (h : Hc) : R D := match x, y with
  | .str a, .str b => if a.length + 2 ≤ 16777216 ∧ b ≠ [] ∧ b.all (· < 256) = true then .ok (.lst ((TL.spl b 0 [] a).map D.str)) h else .bad
  | _, _ => .bad
def rSplit : V → List V → Hp → VK → Prop := fun x xs H Q => ∃ a b, x = .str a ∧ xs = [.str b] ∧ (b.length == 0) = false ∧ a.length + 2 ≤ sizeLine ∧ rNewStrs (Txt.split a b) H Q
theorem okS_spl {b : List Nat} : ∀ (a : List Nat) (k : Nat) (acc : List Nat), okS a → okS acc → ∀ p ∈ TL.spl b k acc a, okS p
  | [], _, acc, _, o, p, hp => by simp only [TL.spl, List.mem_singleton] at hp; rw [hp]; exact o
  | c :: r, 0, acc, oa, o, p, hp => by
    have or_ : okS r := okS_sub oa fun x hx => List.mem_cons_of_mem _ hx
    simp only [TL.spl] at hp
    split at hp
    · rcases List.mem_cons.mp hp with z | z
      · rw [z]; exact o
      · exact okS_spl r _ [] or_ rfl p z
    · exact okS_spl r 0 _ or_ (okS_app o (okS_sub oa fun x hx => by simp at hx; rw [hx]; exact List.mem_cons_self)) p hp
  | c :: r, k + 1, acc, oa, o, p, hp => by
    simp only [TL.spl] at hp
    exact okS_spl r k acc (okS_sub oa fun x hx => List.mem_cons_of_mem _ hx) o p hp
theorem reps_strs : ∀ {ps : List (List Nat)}, (∀ p ∈ ps, okS p) → Reps G W H (ps.map D.str) ((ps.map SX.S).map V.str)
  | [], _ => rfl
  | p :: ps, h => ⟨_, _, rfl, ⟨rfl, h p (by simp)⟩, reps_strs fun q hq => h q (List.mem_cons_of_mem _ hq)⟩
theorem s_split : M1S F mSplit rSplit := by
  intro wx σ W H hp x y v u Q s rx ry h
  unfold mSplit at h
  split at h
  · rename_i a b
    obtain ⟨rfl, o⟩ := rx
    obtain ⟨rfl, o2⟩ := ry
    split at h
    · rename_i hc
      refine ⟨_, _, rfl, rfl, ?_, ?_, fun p hp0 => ?_⟩
      · rw [str_len]
        have : b.length ≠ 0 := fun z => hc.2.1 (List.eq_nil_of_length_eq_zero z)
        simpa using this
      · rw [str_len]; exact lim_ok hc.1
      · show Q (.ref p) (upd H p (.lst ((Txt.split (SX.S a) (SX.S b)).map V.str)))
        rw [SX.split_S hc.2.1 hc.2.2]
        exact Fin.mkLst s hp0 (reps_strs (okS_spl a 0 [] o rfl)) h
    · exact h.elim
  · exact h.elim
/-! ### name op= e -/
def sAug (i : Nat) (op : D → D → Hc → R D) (em : EM) : SM := fun ρ h => match ρ[i]? with
  | some (.v x) => (em ρ h).toS ρ fun y h1 => (op x y h1).toS ρ fun z h2 => .nx (ρ.set i (.v z)) h2
  | _ => .bad
theorem aug_imp {i : Nat} {op : D → D → Hc → R D} {em : EM} {r : R2} {D : Ends} (hs : OpS F (Rep F.G) (Rep F.G) op r) (h : TrS F wx (sAug i op em) D σ H) : tAug i (TrE F wx em) r D σ H := by
  obtain ⟨W, ρ, hp, g, h⟩ := h
  unfold sAug at h
  split at h
  · rename_i x e
    obtain ⟨ov, e2, v, ev, rv⟩ := g.slot e
    subst ev
    refine ⟨v, e2, W, ρ, hp, g, FinS.bind g h fun y hp1 W1 u H1 x1 g1 r1 h1 => ?_⟩
    refine hs wx σ W1 H1 hp1 x y v u _ g1.st (rv.ext x1.toLk) r1 (FinS.bind g1 h1 fun z hp2 W2 w H2 x2 g2 r2 h2 => ?_)
    exact h2 W2 _ H2 (g2.set r2) (Lk.refl _ _)
  · exact h.elim
theorem s_aug {i : Nat} {x : Str} {e : Expr} {em : EM} {op : D → D → Hc → R D} {o : Operator} {r : R2} {pos pos' : Pos} (hN : X.N.Nodup) (ho : OpR X (inplaceOp o) r) (hs : OpS F (Rep F.G) (Rep F.G) op r) (he : PE X e (TrE F wx em)) (hi : X.N[i]? = some x := by rfl) (hx : Loc X.env.scope x := by first | exact .inl rfl | exact .inr rfl)
    (hf : X.fn x = true ∨ X.env.scope.names.lookup x = some .local := by first | exact .inr rfl | exact .inl rfl) : PS X (.AugAssign (.Name x pos') o e pos) (TrS F wx (sAug i op em)) :=
  PS.imp (ps_aug hN hi hx he ho hf) fun D σ H h => aug_imp hs h
def opIAdd (x y : D) (h : Hc) : R D := match x, y with
  | .int i, .int j => .ok (.int (i + j)) h
  | .str a, .str b => if a.length + b.length ≤ 16777216 then .ok (.str (a ++ b)) h else .bad
  | _, _ => .bad
def rIAdd : R2 := fun x y H Q => (rI0 (fun i j => .int (i + j)) x y H Q) ∨ ∃ i j, x = .str i ∧ y = .str j ∧ i.length + j.length ≤ sizeLine ∧ Q (.str (i ++ j)) H
theorem o_iadd : OpR X (inplaceOp .Add) rIAdd := iop_add.or iop_add_str
theorem s_iadd : OpS F (Rep F.G) (Rep F.G) opIAdd rIAdd := by
  intro wx σ W H hp x y v u Q s rx ry h
  unfold opIAdd at h
  split at h
  · cases rx; cases ry
    exact .inl ⟨_, _, rfl, rfl, Fin.here h s rfl⟩
  · obtain ⟨rfl, o1⟩ := rx
    obtain ⟨rfl, o2⟩ := ry
    split at h
    · rename_i hl
      refine .inr ⟨_, _, rfl, rfl, ?_, ?_⟩
      · rw [str_len, str_len]; exact lim_ok hl
      · rw [str_app]; exact Fin.here h s ⟨rfl, okS_app o1 o2⟩
    · exact h.elim
  · exact h.elim
theorem s_isub : OpS F (Rep F.G) (Rep F.G) opSub (rI0 fun i j => .int (i - j)) := by
  intro wx σ W H hp x y v u Q s rx ry h
  exact s_sub wx σ W H hp x y v u Q s (rx.toB s) (ry.toB s) h
def opIMul (x y : D) (h : Hc) : R D := match x, y with
  | .int i, .int j => if (-(2 ^ 64) < i ∧ i < 2 ^ 64) ∨ (-(2 ^ 64) < j ∧ j < 2 ^ 64) then .ok (.int (i * j)) h else .bad
  | _, _ => .bad
theorem s_imul : OpS F (Rep F.G) (Rep F.G) opIMul (rI CMul fun i j => .int (i * j)) := by
  intro wx σ W H hp x y v u Q s rx ry h
  unfold opIMul at h
  split at h
  · cases rx; cases ry
    split at h
    · rename_i hc
      exact ⟨_, _, rfl, rfl, hc, Fin.here h s rfl⟩
    · exact h.elim
  · exact h.elim
/-! ### xs += ys, in place -/
def itemsL (h : Hc) (d : D) : Option (List D) := match unbox h d with
  | .lst ds => some ds
  | _ => none
def sExt (i : Nat) (em : EM) : SM := fun ρ h => if isL (held ρ h i) then (em ρ h).toS ρ fun y h1 => (match held ρ h1 i, itemsL h1 y with
  | .lst ds, some es => if ds.length + es.length ≤ 16777216 then put ρ h1 i (.lst (ds ++ es)) fun ρ' h' => .nx ρ' h' else .bad
  | _, _ => .bad) else .bad
theorem set_same {i : Nat} {v : Option V} (h : σ[i]? = some v) : σ.set i v = σ := by
  apply List.ext_getElem?
  intro k
  by_cases z : i = k
  · subst z; rw [List.getElem?_set_self (List.getElem?_eq_some_iff.mp h).1, h]
  · rw [List.getElem?_set_ne z]
theorem ext_imp {i : Nat} {em : EM} {D : Ends} (h : TrS F wx (sExt i em) D σ H) : tAug i (TrB F wx em) rExt2 D σ H := by
  obtain ⟨W, ρ, hp, g, h⟩ := h
  unfold sExt at h
  split at h
  · rename_i hl
    obtain ⟨a, ea, _⟩ := held_ty g hl
    refine ⟨_, ea, W, ρ, hp, g, FinS.bind g h fun y hp1 W1 u H1 x1 g1 r1 h1 => ?_⟩
    split at h1
    · rename_i ds es eh ei
      split at h1
      · rename_i hz
        obtain ⟨a', ea', cr, nf, nxt⟩ := g1.held (wx := wx) (by rw [eh]; intro z; cases z)
        rw [ea] at ea'; cases ea'
        rw [eh] at cr
        obtain ⟨vs, e, rv⟩ := cr
        unfold itemsL at ei
        split at ei
        · rename_i es' eu
          cases ei
          have ru := unbox_rep g1.st r1
          rw [eu] at ru
          obtain ⟨b, us, rfl, e2, ru⟩ := ru
          refine ⟨a, b, vs, us, rfl, rfl, e, e2, ?_, ?_⟩
          · rw [← rv.length, ← ru.length]; exact lim_ok hz
          · have l := lk_out (H := H1) (o' := .lst (vs ++ us)) nf fun φ z => by rw [e] at z; cases z
            obtain ⟨ρ', hp', g', l', f'⟩ := nxt (.lst (ds ++ es)) (.lst (vs ++ us)) _ D ⟨_, upd_same, (rv.append ru).ext l⟩ h1
            show D.nx (σ.set i (some (.ref a))) _
            rw [set_same ea]
            exact f' W1 σ _ g' (Lk.refl _ _)
        · cases ei
      · exact h1.elim
    · exact h1.elim
  · exact h.elim
theorem s_ext {i : Nat} {x : Str} {e : Expr} {em : EM} {pos pos' : Pos} (hN : X.N.Nodup) (he : PE X e (TrB F wx em)) (hi : X.N[i]? = some x := by rfl) (hx : Loc X.env.scope x := by first | exact .inl rfl | exact .inr rfl)
    (hf : X.fn x = true ∨ X.env.scope.names.lookup x = some .local := by first | exact .inr rfl | exact .inl rfl) : PS X (.AugAssign (.Name x pos') .Add e pos) (TrS F wx (sExt i em)) :=
  PS.imp (ps_aug hN hi hx he iop_ext hf) fun D σ H h => ext_imp h
/-! ### x_i[k] = e -/
def putAt (ρ : Rho) (h : Hc) (i : Nat) (k : D) (v : D) (c : Rho → Hc → O) : O := match held ρ h i, k with
  | .lst ds, .int n => (match ixN ds.length n with
    | some j => put ρ h i (.lst (ds.set j v)) c
    | none => .bad)
  | _, _ => .bad
theorem putAt_imp {i : Nat} {k d : D} {kv v : V} {D : Ends} {c : Rho → Hc → O} {Q : Hp → Prop} (g : Gd F W ρ hp σ H) (rk : Rep F.G W H k kv) (rv : Rep F.G W H d v) {a : Addr} (ea : σ[i]? = some (some (.ref a))) (h : FinS F wx W H D (putAt ρ hp i k d c))
    (nx : ∀ ρ' hp' H', Gd F W ρ' hp' σ H' → Lk W H W H' → FinS F wx W H' D (c ρ' hp') → Q H') : rSetL (.ref a) kv v H Q := by
  unfold putAt at h
  split at h
  · rename_i ds n eh
    split at h
    · rename_i j ej
      obtain ⟨a', ea', cr, nf, nxt⟩ := g.held (wx := wx) (by rw [eh]; intro z; cases z)
      rw [ea] at ea'; cases ea'
      rw [eh] at cr
      obtain ⟨vs, e, rs⟩ := cr
      cases rk
      refine ⟨a, vs, n, j, rfl, rfl, e, by rw [← rs.length]; exact ej, ?_⟩
      have l := lk_out (H := H) (o' := .lst (vs.set j v)) nf fun φ z => by rw [e] at z; cases z
      obtain ⟨ρ', hp', g', l', f'⟩ := nxt (.lst (ds.set j d)) (.lst (vs.set j v)) c D ⟨_, upd_same, (rs.set j rv).ext l⟩ h
      exact nx ρ' hp' _ g' l' f'
    · exact h.elim
  · exact h.elim
/-- value, index; the object is a name -/
def sPut (i : Nat) (ek ev : EM) : SM := fun ρ h => if isL (held ρ h i) then (ev ρ h).toS ρ fun v h1 => (ek ρ h1).toS ρ fun k h2 => putAt ρ h2 i k v fun ρ' h' => .nx ρ' h' else .bad
theorem sput_imp {i : Nat} {ek ev : EM} {D : Ends} (h : TrS F wx (sPut i ek ev) D σ H) : tAsg (TrE F wx ev) (gSub (tVar i) (TrE F wx ek) rSetL) D σ H := by
  obtain ⟨W, ρ, hp, g, h⟩ := h
  unfold sPut at h
  split at h
  · rename_i hl
    obtain ⟨a, ea, _⟩ := held_ty g hl
    refine ⟨W, ρ, hp, g, FinS.bind g h fun v hp1 W1 u H1 x1 g1 r1 h1 => ⟨_, ea, W1, ρ, hp1, g1, FinS.bind g1 h1 fun k hp2 W2 ku H2 x2 g2 r2 h2 => ?_⟩⟩
    exact putAt_imp g2 r2 (r1.ext x2.toLk) ea h2 fun ρ' hp' H' g' l' f' => f' W2 σ H' g' (Lk.refl _ _)
  · exact h.elim
theorem s_put {i : Nat} {x : Str} {k e : Expr} {ek ev : EM} {p q pos : Pos} (hk : PE X k (TrE F wx ek)) (he : PE X e (TrE F wx ev)) (hN : X.N[i]? = some x := by rfl) (hv : Vis X.env.scope x := by first | exact Or.inl rfl | exact Or.inr (Or.inl rfl) | exact Or.inr (Or.inr rfl)) (hd : (x == ("__debug__" : Str)) = false := by decide) (hcd : (x == ("__classdict__" : Str)) = false := by decide)
    (ha : ∀ v, assign (.Subscript (.Name x p) k q) X.env v = (do
      let ov ← holding [v] (eval (.Name x p) X.env)
      let iv ← holding [v, ov] (eval k X.env)
      standAt q
      holding [v, ov, iv] (setItem ov iv v)
      release [v, ov, iv] []) := by intro _; rfl)
    (hs : swapsWithSole [.Subscript (.Name x p) k q] e pos.line X.env = pure false := by rfl) (hw : swappedStores [.Subscript (.Name x p) k q] e X.env = pure none := by rfl)
    (h1 : (assignEach [.Subscript (.Name x p) k q] X.env).map (·.2) = [assign (.Subscript (.Name x p) k q) X.env] := by rfl) : PS X (.Assign [.Subscript (.Name x p) k q] e pos) (TrS F wx (sPut i ek ev)) :=
  PS.imp (ps_asg he (pg_sub (pe_var hN hv hd hcd) hk set_list ha) hs hw h1) fun D σ H h => sput_imp h
/-! ### x_i[k] op= e -/
def sPutAug (i : Nat) (op : D → D → Hc → R D) (ek ev : EM) : SM := fun ρ h => if isL (held ρ h i) then (ek ρ h).toS ρ fun k h1 => (opIx (held ρ h1 i) k h1).toS ρ fun x h2 => (ev ρ h2).toS ρ fun y h3 => (op x y h3).toS ρ fun z h4 => putAt ρ h4 i k z fun ρ' h' => .nx ρ' h' else .bad
theorem get_list : PGet X (rIxL X.K) := by
  intro pins s σ H o i ov iv Q I ro ri h
  obtain ⟨p, xs, k, z, rfl, rfl, hq, he, q⟩ := h
  cases ro
  obtain ⟨t, rfl⟩ := ri
  obtain ⟨its, r, pl, hz⟩ := I.list hq
  obtain ⟨j, h1, h2, h3, h4, h5⟩ := atI_get he
  obtain ⟨w, ew, rw'⟩ := r.get h2
  have hl := r.length
  have hn := line63
  have fin : EP X pins σ Q w s := ⟨z, H, I, rw', q⟩
  by_cases h0 : 0 ≤ k
  · have hj : k.toNat = j := by
      rw [seqIndex_of h0 h5] at h1
      exact Option.some.inj h1
    exact getItem_listL pl.isList h0 (by omega) (by rw [hj]; exact ew) fin
  · have hj : (k + (its.toArray.size : Int)).toNat = j := by
      rw [seqIndex_neg (by omega) h4] at h1
      rw [List.size_toArray, ← hl]
      exact Option.some.inj h1
    exact wpAny_getItem_list_neg pl.isList (by omega) (by rw [List.size_toArray] <;> omega) (by omega) (by rw [hj]; simpa using ew) fin
theorem putAug_imp {i : Nat} {op : D → D → Hc → R D} {ek ev : EM} {r : R2} {D : Ends} (hK : F.G.K = X.K) (hs : OpS F (Rep F.G) (Rep F.G) op r) (h : TrS F wx (sPutAug i op ek ev) D σ H) : tAugS (tVar i) (TrE F wx ek) (TrE F wx ev) (rIxL X.K) r rSetL D σ H := by
  obtain ⟨W, ρ, hp, g, h⟩ := h
  unfold sPutAug at h
  split at h
  · rename_i hl
    obtain ⟨a, ea, _⟩ := held_ty g hl
    refine ⟨_, ea, W, ρ, hp, g, FinS.bind g h fun k hp1 W1 kv H1 x1 g1 r1 h1 => ?_⟩
    unfold opIx at h1
    split at h1
    · rename_i ds n eu
      cases r1
      split at h1
      · rename_i d ed
        obtain ⟨a', ea', cr, nf, _⟩ := g1.held (wx := wx) (by intro z; rw [z] at eu; cases eu)
        rw [ea] at ea'; cases ea'
        have eh : held ρ hp1 i = .lst ds := by
          cases q : held ρ hp1 i with
          | lst es => rw [q] at eu; exact eu
          | ref m => rw [q] at cr; exact cr.elim
          | tup es => rw [q] at cr; exact cr.elim
          | dic es => rw [q] at eu; cases eu
          | dit es => rw [q] at eu; cases eu
          | non => rw [q] at cr; exact cr.elim
          | bl _ => rw [q] at cr; exact cr.elim
          | int _ => rw [q] at cr; exact cr.elim
          | str _ => rw [q] at cr; exact cr.elim
          | lam _ => rw [q] at cr; exact cr.elim
          | scr _ => rw [q] at cr; exact cr.elim
        rw [eh] at cr
        obtain ⟨vs, e, rs⟩ := cr
        obtain ⟨v, h2, h3⟩ := atI_rep rs ed
        refine ⟨a, vs, n, v, rfl, rfl, SqL.of e, h2, W1, ρ, hp1, g1, FinS.bind g1 h1 fun y hp2 W2 u H2 x2 g2 r2 q2 => ?_⟩
        refine hs wx σ W2 H2 hp2 d y v u _ g2.st (h3.ext x2.toLk) r2 (FinS.bind g2 q2 fun z hp3 W3 w H3 x3 g3 r3 q3 => ?_)
        exact putAt_imp (k := .int n) g3 rfl r3 ea q3 fun ρ' hp' H' g' l' f' => f' W3 σ H' g' (Lk.refl _ _)
      · exact h1.elim
    · rename_i ds n eu
      exfalso
      obtain ⟨a', ea', cr, nf, _⟩ := g1.held (wx := wx) (by intro z; rw [z] at eu; cases eu)
      cases q : held ρ hp1 i with
      | lst es => rw [q] at eu; cases eu
      | dic es => rw [q] at eu; cases eu
      | dit es => rw [q] at eu; cases eu
      | _ => rw [q] at cr; exact cr
    · rename_i ds n eu
      exfalso
      obtain ⟨a', ea', cr, nf, _⟩ := g1.held (wx := wx) (by intro z; rw [z] at eu; cases eu)
      cases q : held ρ hp1 i with
      | lst es => rw [q] at eu; cases eu
      | dic es => rw [q] at eu; cases eu
      | dit es => rw [q] at eu; cases eu
      | _ => rw [q] at cr; exact cr
    · exact h1.elim
  · exact h.elim
theorem s_putAug {i : Nat} {x : Str} {k e : Expr} {ek ev : EM} {o : Operator} {op : D → D → Hc → R D} {r : R2} {p q pos : Pos} (hK : F.G.K = X.K) (ho : OpR X (inplaceOp o) r) (hs : OpS F (Rep F.G) (Rep F.G) op r) (hk : PE X k (TrE F wx ek)) (he : PE X e (TrE F wx ev)) (hN : X.N[i]? = some x := by rfl) (hv : Vis X.env.scope x := by first | exact Or.inl rfl | exact Or.inr (Or.inl rfl) | exact Or.inr (Or.inr rfl)) (hd : (x == ("__debug__" : Str)) = false := by decide) (hcd : (x == ("__classdict__" : Str)) = false := by decide)
    (ha : ∀ ov iv new, augStore k ov iv new = (do holding [new, ov, iv] (setItem ov iv new); release [new, ov, iv] []; pure .next) := by intros; rfl) : PS X (.AugAssign (.Subscript (.Name x p) k q) o e pos) (TrS F wx (sPutAug i op ek ev)) :=
  PS.imp (ps_augS (pe_var hN hv hd hcd) hk get_list he ho set_list ha) fun D σ H h => putAug_imp hK hs h
/-! ### raise -/
def sRaise (c : Nat) : SM := fun ρ h => .ex c ρ h
theorem s_raise {e : Expr} {c : Nat} {pos : Pos} (hc : X.calm = true) (tk : Takes X wx) (he : PMk X e (fun _ H Q => Q (.ref (F.G.ca c)) none H)) : PS X (.Raise (some e) none pos) (TrS F wx (sRaise c)) :=
  PS.imp (ps_raise hc tk he) fun D σ H ⟨W, ρ, hp, g, h⟩ => h W σ H g (Lk.refl _ _)
/-! ### try -/
def O.nox : O → O
  | .ex _ _ _ => .bad
  | o => o
def sTry (sub : Nat → Option Bool) (b hd : SM) : SM := fun ρ h => match b ρ h with
  | .ex c ρ' h' => (match sub c with
    | some true => (hd ρ' h').nox
    | some false => .ex c ρ' h'
    | none => .bad)
  | o => o
theorem FinS.nox0 {D : Ends} {o : O} (h : FinS F wx W H D o.nox) : FinS F wx0 W H D o := by
  cases o with
  | ex c ρ hp => exact h.elim
  | nx _ _ => exact h
  | bk _ _ => exact h
  | ct _ _ => exact h
  | rt _ _ => exact h
  | bad => exact h
theorem try_imp {sub : Nat → Option Bool} {c : Value} {b hd : SM} {D : Ends} (hsub : ∀ n b, sub n = some b → PySem.W.exmOne X.K (.ref (F.G.ca n)) c = some b) (h : TrS F wx (sTry sub b hd) D σ H) :
    TrS F (wOnly X.K c (fun _ _ _ => TrS F wx0 hd) wx D) b D σ H := by
  obtain ⟨W, ρ, hp, g, h⟩ := h
  refine ⟨W, ρ, hp, g, ?_⟩
  unfold sTry at h
  revert h
  cases b ρ hp with
  | ex n ρ' hp' =>
    intro h W' σ' H' g' l'
    have h : FinS F wx W H D (match sub n with | some true => (hd ρ' hp').nox | some false => .ex n ρ' hp' | none => .bad) := h
    split at h
    · rename_i es
      exact ⟨true, hsub n true es, fun _ a _ => ⟨W', ρ', hp', g', FinS.nox0 (FinS.lk l' h)⟩, fun z => by cases z⟩
    · rename_i es
      exact ⟨false, hsub n false es, fun z => (by cases z), fun _ => h W' σ' H' g' l'⟩
    · exact h.elim
  | nx _ _ => exact fun h => h
  | bk _ _ => exact fun h => h
  | ct _ _ => exact fun h => h
  | rt _ _ => exact fun h => h
  | bad => exact fun h => h
theorem s_try {x : Str} {c : Value} {body suite : List Stmt} {b₀ : Stmt} {np pos pos' : Pos} {sub : Nat → Option Bool} {b hd : SM} (hs : X.stack = X.env :: X.outer) (hf : X.env.frame = some X.env.locals) (hc : Names X x c) (tk : Takes X wx)
    (hsub : ∀ n b, sub n = some b → PySem.W.exmOne X.K (.ref (F.G.ca n)) c = some b)
    (hb : ∀ (W : WX) (pn : List (Addr × Obj)) (xe : Value → Shared → Prop), Takes (X.tr pn xe) W → PassesOwn (model X.prog X.w) X.A X.env xe → PSs (X.tr pn xe) body (TrS F W b))
    (hsu : ∀ (a : Addr) (oe : Obj) (pn : List (Addr × Obj)), PSs (X.suite a ((a, oe) :: pn)) (b₀ :: suite) (TrS F wx0 hd)) :
    PS X (.Try body [.ExceptHandler (some (.Name x np)) none (b₀ :: suite) pos'] [] [] pos) (TrS F wx (sTry sub b hd)) :=
  PS.imp (ps_try_only (tb := fun W => TrS F W b) (ts := fun _ _ _ => TrS F wx0 hd) hs hf hc tk hb fun a oe cls d pn _ _ => hsu a oe pn) fun D σ H h => try_imp hsub h
end
end Z

/-! Z14: defs -/
namespace Z
open PySem PySem.Spec PyProof.Rows L2

def startR (n : Nat) (ds : List D) : Rho := ds.map Sl.v ++ List.replicate (n - ds.length) .u
def O.toR : O → R D
  | .nx _ h => .ok .non h
  | .rt d h => .ok d h
  | .ex c _ h => .ex c h
  | _ => .bad
/-- a def: so many slots, its body -/
def mkF (n : Nat) (sm : SM) : FM := fun ds h => (sm (startR n ds) h).toR
def FinF (G : Gl) (W : Wd) (H : Hp) (Q : VK) (E : XK) : R D → Prop
  | .ok d hp' => ∀ W' v H', Ext W H W' H' → St0 G W' H' hp' → Rep G W' H' d v → Q v H'
  | .ex c hp' => ∀ W' H', Ext W H W' H' → St0 G W' H' hp' → E (.ref (G.ca c)) none H'
  | .bad => False
def spOf (G : Gl) (f : FM) (n : Nat) : Sp := fun vs H Q E => ∃ W hp ds, St0 G W H hp ∧ Reps G W H ds vs ∧ ds.length = n ∧ FinF G W H Q E (f ds hp)
theorem spOf.len {G : Gl} {f : FM} {n : Nat} {vs : List V} {H : Hp} {Q : VK} {E : XK} (h : spOf G f n vs H Q E) : vs.length = n := by
  obtain ⟨W, hp, ds, s, r, hl, _⟩ := h
  rw [← r.length, hl]
theorem start_gd {G : Gl} {W : Wd} {H : Hp} {hp : Hc} {ds : List D} {vs : List V} {N : List Str} (s : St0 G W H hp) (r : Reps G W H ds vs) : Gd ⟨G, W, H⟩ W (startR N.length ds) hp (L2.start N vs) H where
  x0 := Ext.refl W H
  st := s
  env := {
    len := by
      unfold startR L2.start
      rw [List.length_append, List.length_append, List.length_map, List.length_map, List.length_replicate, List.length_replicate, r.length]
    at_ := fun i sl ov h1 h2 => by
      unfold startR at h1
      unfold L2.start at h2
      by_cases hi : i < ds.length
      · rw [List.getElem?_append_left (by simpa using hi), List.getElem?_map] at h1
        rw [List.getElem?_append_left (by rw [List.length_map, ← r.length]; exact hi), List.getElem?_map] at h2
        rw [List.getElem?_eq_getElem hi] at h1
        cases h1
        obtain ⟨v, e, rv⟩ := r.get (List.getElem?_eq_getElem hi)
        rw [e] at h2
        cases h2
        exact ⟨v, rfl, rv⟩
      · rw [List.getElem?_append_right (by simpa using hi), List.getElem?_replicate] at h1
        split at h1
        · cases h1; trivial
        · cases h1
    ap := fun i j a h1 h2 => by
      obtain ⟨⟨d, h1⟩, _⟩ := h1
      exfalso
      unfold startR at h1
      by_cases hi : i < ds.length
      · rw [List.getElem?_append_left (by simpa using hi), List.getElem?_map, List.getElem?_eq_getElem hi] at h1
        cases h1
      · rw [List.getElem?_append_right (by simpa using hi), List.getElem?_replicate] at h1
        split at h1 <;> cases h1
    nw := fun i a h1 => by
      obtain ⟨⟨d, h1⟩, _⟩ := h1
      exfalso
      unfold startR at h1
      by_cases hi : i < ds.length
      · rw [List.getElem?_append_left (by simpa using hi), List.getElem?_map, List.getElem?_eq_getElem hi] at h1
        cases h1
      · rw [List.getElem?_append_right (by simpa using hi), List.getElem?_replicate] at h1
        split at h1 <;> cases h1 }
abbrev wxE (E : XK) : WX := fun cls d _ H' => E cls d H'
section
variable {P : Program} {w : World} {K : PySem.W.Frag} {mg : Str → Option Value} {base : Heap} {x qual : Str} {params : Arguments} {body : List Stmt} {scope : Scope} {f : Addr} {fd : FuncData} {G : Gl}
/-- THE RULE: a def by its body's mirror -/
theorem fn_ok {N ps : List Str} {k : Nat} {sm : SM} (F : FunD K x qual params body scope [] [] f fd) (S : FnScope N ps scope)
    (hbody : ∀ (W : Wd) (c : Addr) (A : Around) (outer : List Env) (s : Shared) (H : Hp) (E : XK), fd.code = .ref c → Room k (A.deeper (envOfC qual scope s.heap.objs.size f (.ref c))) →
      PSs (cxOf (L2.CX P w) P w K mg base N qual scope f (.ref c) A outer s H E) body (TrS ⟨G, W, H⟩ (wxE E) sm)) : FnOk P w K mg base (L2.CX P w) (k + 1) f fd ps (spOf G (mkF N.length sm) ps.length) := by
  obtain ⟨oc, od, dV, kV, doc, pm, an, cdv, ct, osl, rfl, lk, hcd, _, _⟩ := F.ex
  obtain ⟨c, rfl⟩ := He.codeIn_ref hcd
  refine fn_of lk hcd S (fun vs H Q E h => h.len) fun A outer s H vs Q E hr hsp => ?_
  obtain ⟨W, hp, ds, st, r, hl, q⟩ := hsp
  refine ⟨_, hbody W c A outer s H E rfl hr, W, _, hp, start_gd st r, ?_⟩
  unfold mkF at q
  revert q
  cases sm (startR N.length ds) hp with
  | nx ρ h => exact fun q W' σ' H' g _ => q W' .non H' g.x0 g.st rfl
  | rt d h => exact fun q => q
  | ex c ρ h => exact fun q W' σ' H' g _ => q W' H' g.x0 g.st
  | bk ρ h => exact fun q => q.elim
  | ct ρ h => exact fun q => q.elim
  | bad => exact fun q => q
theorem takes_fn {N : List Str} {cd : Value} {A : Around} {outer : List Env} {s : Shared} {H : Hp} {E : XK} : Takes (cxOf (L2.CX P w) P w K mg base N qual scope f cd A outer s H E) (wxE E) := takes_of rfl rfl rfl rfl
theorem owns_fn {N : List Str} {cd : Value} {A : Around} {outer : List Env} {s : Shared} {H : Hp} {E : XK} : PassesOwn (model P w) (cxOf (L2.CX P w) P w K mg base N qual scope f cd A outer s H E).A (cxOf (L2.CX P w) P w K mg base N qual scope f cd A outer s H E).env (cxOf (L2.CX P w) P w K mg base N qual scope f cd A outer s H E).xe :=
  passes_of (X := cxOf (L2.CX P w) P w K mg base N qual scope f cd A outer s H E) (K := fun e s'' => L2.CX P w outer H s E e s'') rfl
/-- what a caller knows of a def -/
structure FnZ (P : Program) (w : World) (K : PySem.W.Frag) (mg : Str → Option Value) (base : Heap) (G : Gl) (k : Nat) (x : Str) (n : Nat) (m : FM) : Prop where
  ex : ∃ (f : Addr) (fd : FuncData) (ps : List Str), ps.length = n ∧ FnOk P w K mg base (L2.CX P w) k f fd ps (spOf G m n) ∧ mg x = some (.ref f) ∧ PySem.W.keepIn K (.ref f) = true ∧ Binds K fd ps []
end
def eCall (n : Nat) (m : FM) (am : AM) : EM := fun ρ h => (am ρ h).bind fun xs h1 => if xs.length = n then m xs h1 else .bad
def eBad : EM := fun _ _ => .bad
section
variable {F : Fr} {X : Cx} {wx : WX} {σ : L2.St} {k k' n : Nat} {x : Str} {m : FM} {p pos : Pos} {e : Expr} {es : List Expr} {am : AM}
theorem e_never {e : Expr} : PE X e (TrE F wx eBad) := ⟨fun p s σ H Q I ⟨W, ρ, hp, g, h⟩ => h.elim⟩
theorem call_imp {Q : VK} {H : Hp} (h : TrE F wx (eCall n m am) σ H Q) : tCallS (spOf F.G m n) (WE wx) (TrA F wx am) σ H Q := by
  obtain ⟨W, ρ, hp, g, h⟩ := h
  refine ⟨W, ρ, hp, g, Fin.bind h fun xs hp1 W1 vs H1 x1 s1 r1 h1 => ?_⟩
  split at h1
  · rename_i hl
    refine ⟨W1, hp1, xs, s1, r1, hl, ?_⟩
    cases hz : m xs hp1 with
    | ok d h2 => rw [hz] at h1; exact h1
    | ex c h2 => rw [hz] at h1; exact h1
    | bad => rw [hz] at h1; exact h1
  · exact h1.elim
theorem e_call (C : FnZ X.prog X.w X.K X.mg X.base F.G k x n m) (hr : Room k' X.A) (tk : Takes X wx) (ha : PA X (e :: es) (TrA F wx am)) (hk : k ≤ k' := by decide) (hg : L2.Gl X x := by rfl)
    (hdb : (x == ("__debug__" : Str)) = false := by decide) (he : starEach (e :: es) X.env = (false, eval e X.env) :: starEach es X.env := by rfl) (hpl : (backTo pos (starEach es X.env)).any (·.1) = false := by rfl) : PE X (.Call (.Name x p) (e :: es) [] pos) (TrE F wx (eCall n m am)) := by
  obtain ⟨f, fd, ps, hl, ok, hm, kp, bd⟩ := C.ex
  exact PE.imp (pe_callS ok (hr.mono hk) hg hm kp bd (passAt tk) ha hdb he hpl) fun σ H Q h => call_imp h
end
end Z

/-! Z15: a lambda handed to the def that catches what it raises -/
namespace Z
open PySem PySem.Spec PyProof.Rows L2

section
variable {F : Fr} {X : Cx} {wx : WX} {pins : List (Addr × Obj)} {σ : L2.St} {G : Gl} {W W' : Wd} {H H' : Hp} {hp : Hc} {s : Shared} {ρ : Rho}
/-- a code object is noted in the table at P -/
structure Noted (P c : Addr) (q : Str) (H H1 : Hp) : Prop where
  ex : ∃ ps more : Array Value, H P = some (.tbl ps) ∧ H c = none ∧ H1 = upd (upd H P (.tbl (ps ++ more))) c (LamX.CodeO c q)
  tab : LamX.TabS H1 P q
theorem Noted.ext {P c : Addr} {q : Str} {H1 : Hp} (n : Noted P c q H H1) (s : St0 G W H hp) (hu : ∀ p ∈ G.tl, p.1 = P → p.2 = q) : Ext W H W H1 ∧ St0 G W H1 hp := by
  obtain ⟨⟨ps, more, eP, ec, rfl⟩, tab⟩ := n
  have stay : ∀ b o, H b = some o → noTbl o → upd (upd H P (.tbl (ps ++ more))) c (LamX.CodeO c q) b = some o := fun b o e nt => by
    rw [upd_ne (ne_of_none e ec), upd_ne (fun z => nt ps (by rw [z, eP] at e; exact (Option.some.inj e).symm))]
    exact e
  have there : ∀ b, H b ≠ none → upd (upd H P (.tbl (ps ++ more))) c (LamX.CodeO c q) b ≠ none := fun b h => by
    unfold upd
    split
    · simp
    · split
      · simp
      · exact h
  have x : Ext W H W (upd (upd H P (.tbl (ps ++ more))) c (LamX.CodeO c q)) := ⟨⟨fun _ _ h => h, fun _ h => h, fun a φ h => stay a _ h (fun ps z => by cases z), fun a o _ e n => stay a o e n⟩, fun a o e _ n => stay a o e n, there, fun _ h => .inl h, fun _ _ h => .inl h⟩
  refine ⟨x, ⟨fun n cl h => ?_, s.dom, s.inj, s.nfz, fun a h => there a (s.ft a h), fun t ht => ?_, fun a qs h => ?_⟩⟩
  · obtain ⟨a, ha, r⟩ := s.cells n cl h
    refine ⟨a, ha, ?_⟩
    have key : ∀ o, H a = some o → noTbl o → CellRep G W.nl (upd (upd H P (.tbl (ps ++ more))) c (LamX.CodeO c q)) a cl := fun o e nt => r.ext x.toLk.nl (by rw [stay a o e nt, e])
    cases cl with
    | box d =>
      cases d with
      | lst ds => obtain ⟨vs, e, _⟩ := r; exact key _ e fun ps z => by cases z
      | dic ds => obtain ⟨vs, e, _⟩ := r; exact key _ e fun ps z => by cases z
      | dit ds => obtain ⟨vs, e, _⟩ := r; exact key _ e fun ps z => by cases z
      | _ => exact r.elim
    | ins k fs => obtain ⟨dx, vfs, e, _⟩ := r; exact key _ e fun ps z => by cases z
  · by_cases z : t.1 = P
    · rw [hu t ht z, z]; exact tab
    · obtain ⟨qs, h1, h2, h3⟩ := s.tl t ht
      refine ⟨qs, by rw [upd_ne (ne_of_none h1 ec), upd_ne z]; exact h1, h2, fun pos cv hc => ?_⟩
      obtain ⟨c0, e1, e2⟩ := h3 pos cv hc
      exact ⟨c0, e1, stay _ _ e2 LamX.codeO_ne⟩
  · unfold upd at h
    split at h
    · exact absurd (Option.some.inj h) (LamX.codeO_ne qs)
    · split at h
      · trivial
      · trivial
/-- a lambda is made: behind its code object, its own object comes last -/
theorem lam_mk {c P : Addr} {params : Arguments} {body : Expr} {scope : Scope} {pos : Pos} {E : Value → Shared → Prop} {Q : Value → Shared → Prop} (I : Inv X pins σ H s) (TB : LamX.TabB X.base X.mg c P) (code : X.env.code = .ref c)
    (tab : LamX.TabS H P (X.env.qual ++ "<lambda>")) (dfl : defaultsOf params X.env = ([], [])) (fr : ∀ y ∈ scope.names, y.2 = .free → ∃ c, X.env.cells.lookup y.1 = some c)
    (k : ∀ (g : Heap) (tk : Nat) (a : Addr) (v1 v2 : Value) (H1 : Hp), Inv X pins σ H1 { s with heap := g, toks := tk } → (H1 = H ∨ Noted P a (X.env.qual ++ "<lambda>") H H1) → H1 a = some (LamX.CodeO a (X.env.qual ++ "<lambda>")) →
      Q (.ref g.objs.size) { s with heap := g.push (PySem.W.kla_obj "<lambda>" (X.env.qual ++ "<lambda>") params body scope (cloFrom X.env.cells scope.names []) v1 a v2), toks := tk }) :
    wpAny (model X.prog X.w) X.A (eval (.Lambda params body scope pos) X.env) Q E s := by
  obtain ⟨ps, eP, tri, among⟩ := tab
  have gP : s.heap.get? P = some { cls := .none, data := .fields ps } := I.hok P _ eP
  have bP := TB.bm.keeps I.bk
  have cP := TB.code.keeps I.bk
  have gl := I.mod.glob.keeps I.bk
  refine PySem.W.kla_eval dfl ?_
  cases am : codeAmong pos ps.toList with
  | some cv =>
    obtain ⟨a, ea, ka⟩ := among pos cv am
    subst ea
    refine PySem.W.kla_makeFunctionHit (mg := X.mg) (c := c) (P := P) (ps := ps)
      (closure_ok fr) I.ok.glob gl code cP gP tri am bP
      fun v2 g tk hx hsz => ?_
    exact k g tk a ((X.mg "__name__").getD .none) v2 H (I.kept hx) (.inl rfl) ka
  | none =>
    refine PySem.W.kla_makeFunction (mg := X.mg) (c := c) (P := P) (ps := ps)
      (closure_ok fr) I.ok.glob gl code cP gP tri am TB.gP bP
      fun a v2 g tk hx hge hlt hrec htb => ?_
    obtain ⟨a', oc, vs, t, ea, hoc, hd, hv⟩ := hrec
    cases ea
    have na : H a = none := I.hok.fresh hge
    have J := LamX.inv_table (q := X.env.qual ++ "<lambda>") (t' := tk) (more := #[rawInt pos.line, rawInt pos.col, .ref a]) (h' := g) I eP hx htb hge ⟨oc, vs, t, hoc, hd, hv⟩
    have stay : ∀ b o, H b = some o → noTbl o → upd (upd H P (.tbl (ps ++ #[rawInt pos.line, rawInt pos.col, .ref a]))) a (LamX.CodeO a (X.env.qual ++ "<lambda>")) b = some o := fun b o e nt => by
      rw [upd_ne (ne_of_none e na), upd_ne (fun z => nt ps (by rw [z, eP] at e; exact (Option.some.inj e).symm))]
      exact e
    refine k g tk a ((X.mg "__name__").getD .none) v2 _ J (.inr ⟨⟨ps, _, eP, na, rfl⟩, _, by rw [upd_ne (ne_of_none eP na), upd_same], ?_, fun p cv hcv => ?_⟩) upd_same
    · rw [show (ps ++ #[rawInt pos.line, rawInt pos.col, Value.ref a]).toList = ps.toList ++ [rawInt pos.line, rawInt pos.col, .ref a] by simp]
      exact PySem.TriplesOk_snoc _ _ _ _ tri
    · rw [show (ps ++ #[rawInt pos.line, rawInt pos.col, Value.ref a]).toList = ps.toList ++ [rawInt pos.line, rawInt pos.col, .ref a] by simp] at hcv
      rcases LamX.among_app _ tri hcv with z | z
      · obtain ⟨c0, e1, e2⟩ := among p cv z
        exact ⟨c0, e1, stay _ _ e2 LamX.codeO_ne⟩
      · exact ⟨a, z, upd_same⟩
theorem out_frames (I : Inv X pins σ H s) {f : Addr} (hf : s.heap.objs.size ≤ f) : f ∉ frs X.stack := fun z => (List.mem_cons.mp (I.stkSub _ z)).elim
  (fun e => absurd (Nat.lt_of_lt_of_le I.lt (by rw [← e]; exact hf)) (Nat.lt_irrefl _)) fun e => I.nofs hf e
/-! ### told(lambda: e) -/
def eTold (sub : Nat → Option Bool) (ret : List Nat) (em : EM) : EM := fun ρ h => match em ρ h with
  | .ex c h' => if sub c = some true then .ok (.str ret) h' else .bad
  | r => r
/-- the def that calls what it gets and catches -/
structure ToldZ (X : Cx) (k : Nat) (x : Str) (CS : Addr) (ret : List Nat) : Prop where
  ex : ∃ (a e : Str) (g : Addr) (params : Arguments) (sg : Scope) (dV kV doc pm cdv ct oc : Value) (an od : Option Addr) (osl : Array (Option Value)) (j : Nat) (p1 p2 p3 p4 p5 p6 p7 p8 : Pos) (bg : List Stmt),
    bg = [.Try [.Return (some (.Call (.Name a p1) [] [] p2)) p3] [.ExceptHandler (some (.Name e p4)) none [.Return (some (.Constant (.str ⟨ret.toArray⟩) j p5)) p6] p7] [] [] p8] ∧
    X.mg x = some (.ref g) ∧ PySem.W.keepIn X.K (.ref g) = true ∧ X.K.lookup g = some ⟨oc, od, .func (PySem.W.fnOf x x params bg sg dV kV doc pm an cdv ct), osl⟩ ∧ PySem.W.codeIn X.K cdv x = true ∧
    Binds X.K (PySem.W.fnOf x x params bg sg dV kV doc pm an cdv ct) [a] [] ∧ FnScope [a] [a] sg ∧ Vis sg a ∧ sg.names.lookup e = some .globalImplicit ∧ X.mg e = some (.ref CS) ∧ (e == ("__debug__" : Str)) = false ∧ (a == ("__debug__" : Str)) = false ∧ (a == ("__classdict__" : Str)) = false
theorem takes_lam {A : Around} {outer : List Env} {s : Shared} {H : Hp} {E : XK} {scope : Scope} {f c : Addr} : Takes (LamX.lamCx X A outer s H E scope f c) (wxE E) := takes_of rfl rfl rfl rfl
theorem e_told {sub : Nat → Option Bool} {ret : List Nat} {em : EM} {x : Str} {c P CS : Addr} {k : Nat} {params : Arguments} {body : Expr} {scope : Scope} {p lpos pos : Pos} (T : ToldZ X k x CS ret) (hr : Room (k + 2) X.A) (ho : okS ret)
    (hsub : ∀ n b, sub n = some b → PySem.W.exmOne X.K (.ref (F.G.ca n)) (.ref CS) = some b) (TB : LamX.TabB X.base X.mg c P) (hcode : X.env.code = .ref c) (hmT : (P, X.env.qual ++ "<lambda>") ∈ F.G.tl) (hu : ∀ p ∈ F.G.tl, p.1 = P → p.2 = X.env.qual ++ "<lambda>")
    (L : LamX.LamS X.env.scope scope) (hbody : ∀ (A : Around) (outer : List Env) (s : Shared) (H : Hp) (E : XK) (f c' : Addr), Room k (A.deeper (LamX.lamEnv X scope s.heap.objs.size f c')) → PE (LamX.lamCx X A outer s H E scope f c') body (TrE F (wxE E) em))
    (hg : L2.Gl X x := by rfl) (hdef : defaultsOf params X.env = ([], []) := by rfl)
    (hbind : ∀ (q : Str) (cl : List (Str × Addr)) (pm cv ctv : Value), bindArgs (PySem.W.kla_fn "<lambda>" q params body scope cl pm cv ctv) ⟨[], []⟩ = pure [] := by intros; rfl)
    (hdb : (x == ("__debug__" : Str)) = false := by decide) : PE X (.Call (.Name x p) [.Lambda params body scope lpos] [] pos) (TrE F wx (eTold sub ret em)) := by
  refine ⟨fun pins s σ H Q I h => ?_⟩
  obtain ⟨a, e, g, pg, sg, dV, kV, doc, pm, cdv, ct, oc, an, od, osl, j, p1, p2, p3, p4, p5, p6, p7, p8, bg, hbg, hm, hk, lk, hcg, hb, Sg, hva, hge, hme, hde, hd, hcd⟩ := T.ex
  subst hbg
  obtain ⟨W, ρ, hp, gd, h⟩ := h
  refine wpAny_Call_Name_kw (ld_glob I hg hm ?_ hdb)
  refine PySem.W.callWith_K (h₀ := X.base) I.ok.mod.kin hk ?_ (by rfl) (by rfl)
  show wpAny _ _ (spliced ((false, eval (.Lambda params body scope lpos) X.env) :: backTo pos (starEach [] X.env))) _ _ s
  refine Calls.spliced_cons (lam_mk I TB hcode (gd.st.tl _ hmT) hdef (L.has I.ok) fun g1 tk1 c' pm' ctv H1 I0 nt hco => ?_)
  generalize hs' : ({ s with heap := g1.push (PySem.W.kla_obj "<lambda>" (X.env.qual ++ "<lambda>") params body scope (cloFrom X.env.cells scope.names []) pm' c' ctv), toks := tk1 } : Shared) = s'
  have I1 : Inv X pins σ H1 s' := by
    rw [← hs']
    exact I0.kept (t' := tk1) fun b o e => Heap.get?_push_of_some _ e
  have hf : s'.heap.get? g1.objs.size = some (PySem.W.kla_obj "<lambda>" (X.env.qual ++ "<lambda>") params body scope (cloFrom X.env.cells scope.names []) pm' c' ctv) := by
    rw [← hs']
    exact Heap.get?_push_size _ rfl
  have hfn : H1 g1.objs.size = none := I0.hok.fresh (Nat.le_refl _)
  have hfr : g1.objs.size ∉ frs X.stack := out_frames I0 (Nat.le_refl _)
  generalize g1.objs.size = f at hf hfn hfr ⊢
  refine Calls.spliced_nil ⟨I1.kIn, ?_⟩
  have ext1 : Ext W H W H1 ∧ St0 F.G W H1 hp := by
    rcases nt with rfl | nt
    · exact ⟨Ext.refl _ _, gd.st⟩
    · exact nt.ext gd.st hu
  have gd1 := gd.ext ext1.1 ext1.2
  have h1 := Fin.ext ext1.1 h
  have act : ∀ (W' : WX) (pn : List (Addr × Obj)) (xe : Value → Shared → Prop) (E : XK) (q1 q2 : Pos), Takes ((cxOf C8.CX0 X.prog X.w X.K X.mg X.base [a] x sg g cdv X.A X.stack s' H1 C8.E0).tr pn xe) W' → (∀ cls d σ' H', E cls d H' → W' cls d σ' H') → Room (k + 1) (X.A.deeper (envOfC x sg s'.heap.objs.size g cdv)) →
      PE ((cxOf C8.CX0 X.prog X.w X.K X.mg X.base [a] x sg g cdv X.A X.stack s' H1 C8.E0).tr pn xe) (.Call (.Name a q1) [] [] q2) (fun σZ HZ Q => σZ[0]? = some (some (.ref f)) ∧ HZ c' = some (LamX.CodeO c' (X.env.qual ++ "<lambda>")) ∧ TrE F (wxE E) em σ HZ Q) :=
    fun W' pn xe E q1 q2 tk hW hr' => LamX.pe_act (i := 0) I1 L hf hfn hfr (hbind _ _ _ _ _) tk hW hr' (fun A outer s H hr2 => hbody A outer s H E f c' hr2) rfl hva hd hcd
  have rc : codeAny (model X.prog X.w) X.A (.call (.ref g) ⟨[.ref f], []⟩) (CR C8.CX0 X.stack X.prog X.w H1 s' Q C8.E0) s' := by
    refine LamX.run_ofS (N := [a]) (ps := [a]) (us := [.ref f]) (vs := [.ref f]) lk hcg Sg hr I1.env0 (hb s' [.ref f] I1.kIn rfl) (.cons rfl .nil) rfl fun hr' => ?_
    obtain ⟨t', ht', hq'⟩ := LamX.told_gives (X := X) (Ng := [a]) (x := x) (q := X.env.qual ++ "<lambda>") (cdg := cdv) hge hme hde (fun f => rfl) f c' s' H1 Q (fun E H' Q' => TrE F (wxE E) em σ H' Q') (fun W' pn xe E q1 q2 tk hW => act W' pn xe E q1 q2 tk hW hr') hco ⟨W, ρ, hp, gd1, by
      unfold eTold at h1
      cases z : em ρ hp with
      | ok d h2 => rw [z] at h1; exact h1
      | bad => rw [z] at h1; exact h1
      | ex n h2 =>
        rw [z] at h1
        have h1 : Fin F wx σ (Rep F.G) W H1 Q (if sub n = some true then .ok (.str ret) h2 else .bad) := h1
        split at h1
        · rename_i es
          exact fun W' H' x' s' => ⟨true, hsub n true es, fun _ => h1 W' _ H' x' s' ⟨rfl, ho⟩, fun z => by cases z⟩
        · exact h1.elim⟩
    exact ⟨t', ht'.nox, hq'⟩
  refine wpAny_call (codeAny_mono rc fun r s2 hq => ?_)
  cases r with
  | error e => exact (show False from hq).elim
  | ok fl =>
    cases fl with
    | ret u => exact I1.after hq
    | next => exact False.elim hq
    | brk => exact False.elim hq
    | cont => exact False.elim hq
end
end Z

/-! Z16: lambdas that catch nothing from around, kept in a list -/
namespace Z
open PySem PySem.Spec PyProof.Rows L2

section
variable {F : Fr} {X : Cx} {wx : WX} {pins : List (Addr × Obj)} {σ : L2.St} {G : Gl} {W W' : Wd} {H H' : Hp} {hp : Hc} {s : Shared} {ρ : Rho}
theorem lamO_no {f : Addr} {o : Obj} : noTbl (LamO f o) := fun ps z => by unfold LamO at z; cases z
theorem e_lam {i : Nat} {c P : Addr} {params : Arguments} {body : Expr} {scope : Scope} {lpos : Pos} (hl : F.G.lam i = some (params, body, scope, X.env.qual ++ "<lambda>")) (TB : LamX.TabB X.base X.mg c P) (hcode : X.env.code = .ref c) (hmT : (P, X.env.qual ++ "<lambda>") ∈ F.G.tl) (hu : ∀ p ∈ F.G.tl, p.1 = P → p.2 = X.env.qual ++ "<lambda>")
    (hcl : cloFrom X.env.cells scope.names [] = [] := by rfl) (hfr : ∀ y ∈ scope.names, y.2 ≠ .free := by decide +kernel) (hdef : defaultsOf params X.env = ([], []) := by rfl) : PE X (.Lambda params body scope lpos) (TrE F wx (eC (.lam i))) := by
  refine ⟨fun pins s σ H Q I h => ?_⟩
  obtain ⟨W, ρ, hp, gd, h⟩ := h
  refine lam_mk I TB hcode (gd.st.tl _ hmT) hdef (fun y hy e => absurd e (hfr y hy)) fun g tk a v1 v2 H1 I1 nt hco => ?_
  rw [hcl]
  have ext1 : Ext W H W H1 ∧ St0 F.G W H1 hp := by
    rcases nt with rfl | nt
    · exact ⟨Ext.refl _ _, gd.st⟩
    · exact nt.ext gd.st hu
  have hn : H1 g.objs.size = none := I1.hok.fresh (Nat.le_refl _)
  have J := I1.laid (a := g.objs.size) (o := LamO g.objs.size (PySem.W.kla_obj "<lambda>" (X.env.qual ++ "<lambda>") params body scope [] v1 a v2)) (t' := tk) (h' := g.push (PySem.W.kla_obj "<lambda>" (X.env.qual ++ "<lambda>") params body scope [] v1 a v2))
    (fun b u e => Heap.get?_push_of_some _ e) (Nat.le_refl _) ⟨Heap.get?_push_size _ rfl, ⟨_, Heap.get?_push_size _ rfl⟩, fun h1 h2 q st => st _ q⟩
  refine ⟨.ref g.objs.size, _, J, rfl, h W _ _ (ext1.1.trans (ext_own ext1.2 hn)) (st_own ext1.2 hn lamO_no) ⟨_, rfl, params, body, scope, _, v1, v2, a, hl, upd_same, ?_⟩⟩
  rw [upd_ne (ne_of_none hco hn)]
  exact hco
/-- the closed lambda number i: what it does -/
structure LamZ (P : Program) (w : World) (K : PySem.W.Frag) (mg : Str → Option Value) (base : Heap) (G : Gl) (k i : Nat) (m : Hc → R D) : Prop where
  run : ∀ (params : Arguments) (body : Expr) (scope : Scope) (q : Str), G.lam i = some (params, body, scope, q) → FnScope [] [] scope ∧ (∀ (q : Str) (cl : List (Str × Addr)) (pm cv ctv : Value), bindArgs (PySem.W.kla_fn "<lambda>" q params body scope cl pm cv ctv) ⟨[], []⟩ = pure []) ∧
    ∀ (W : Wd) (f c : Addr) (A : Around) (outer : List Env) (s : Shared) (H : Hp) (E : XK), Room k (A.deeper (envOfC q scope s.heap.objs.size f (.ref c))) → PE (cxOf (L2.CX P w) P w K mg base [] q scope f (.ref c) A outer s H E) body (TrE ⟨G, W, H⟩ (wxE E) fun _ h => m h)
theorem pe_lamZ {Z : Cx} {k i : Nat} {m : Hc → R D} {f : Addr} {a : Str} {W' : WX} {E : XK} {q1 q2 : Pos} (L : LamZ Z.prog Z.w Z.K Z.mg Z.base G k i m) (hr : Room (k + 1) Z.A) (tk : Takes Z W') (hW : ∀ cls d σ' H', E cls d H' → W' cls d σ' H')
    (hN : Z.N[0]? = some a) (hv : Vis Z.env.scope a) (hd : (a == ("__debug__" : Str)) = false) (hcd : (a == ("__classdict__" : Str)) = false) :
    PE Z (.Call (.Name a q1) [] [] q2) (fun σ H Q => σ[0]? = some (some (.ref f)) ∧ ∃ W hp, LamAt G H i f ∧ St0 G W H hp ∧ FinF G W H Q E (m hp)) := by
  refine ⟨fun pins s σ H Q I h => ?_⟩
  obtain ⟨hs, W, hp, ⟨params, body, scope, q, v1, v2, c, hl, hf, hc⟩, st, fin⟩ := h
  obtain ⟨S, hbind, hbody⟩ := L.run params body scope q hl
  refine wpAny_Call_Name_kw (thn ((pe_var (pos := q1) (i := 0) hN hv hd hcd).run pins s σ H (fun v H1 => v = .ref f ∧ H1 = H) I ⟨.ref f, hs, rfl, rfl⟩) fun u s1 ⟨v, H1, I1, r1, z1⟩ => ?_)
  obtain ⟨ev, eH⟩ := z1
  subst ev
  rw [eH] at I1
  obtain rfl : u = Value.ref f := r1
  have of1 := (I1.hok f _ hf).1
  obtain ⟨oc, vs, t, hoc, hdc, hvc⟩ := (I1.hok c _ hc).1
  refine PySem.W.callWith_F0 ⟨_, _, _, _, of1⟩ ?_
  have hx := passes_call tk hW
  have rc : codeAny (model Z.prog Z.w) Z.A (.call (.ref f) ⟨[], []⟩) (CR (L2.CX Z.prog Z.w) Z.stack Z.prog Z.w H s1 Q E) s1 := by
    refine PySem.W.kla_callFunE hr.depth of1 rfl S.co S.gen rfl ⟨c, oc, vs, t, rfl, hoc, hdc, hvc⟩ ?_
    rw [hbind]
    refine wpAny_pure (wpAny_newFunctionEnv_cells S.kind (fun y hy => absurd hy (by simp)) fun env he s2 x => ?_)
    subst he
    refine ⟨I1.nolimit.keeps x.toInCall.keep, ?_⟩
    have J : Inv (cxOf (L2.CX Z.prog Z.w) Z.prog Z.w Z.K Z.mg Z.base [] q scope f (.ref c) Z.A Z.stack s1 H E) [] (L2.start [] []) H s2 := inv_start (ps := []) (us := []) (vs := []) S hr.hd I1.env0 rfl .nil x
    refine PySem.W.kla_codeExpr (wpAny_mono ((hbody W f c Z.A Z.stack s1 H E (hr.deeper _)).run [] s2 _ H Q J ⟨W, _, hp, start_gd (N := []) (ds := []) st rfl, ?_⟩) (fun v s' hq => ?_) fun e s' hq => hq)
    · show Fin _ _ _ _ _ _ _ (m hp)
      revert fin
      cases m hp with
      | ok d h2 => exact fun fin => fin
      | ex n h2 => exact fun fin => fin
      | bad => exact fun fin => fin
    · obtain ⟨w', H', J', rv, q⟩ := hq
      exact ⟨w', H', J'.os, J'.bare, J'.base, J'.hok, rv, q⟩
  refine wpAny_call (codeAny_mono rc fun r s' hq => ?_)
  cases r with
  | error e => exact hx pins σ H s1 e s' I1 hq
  | ok fl =>
    cases fl with
    | ret u => exact I1.after hq
    | next => exact False.elim hq
    | brk => exact False.elim hq
    | cont => exact False.elim hq
/-- told(f), f a closed lambda -/
def eToldL (sub : Nat → Option Bool) (ret : List Nat) (lamM : Nat → Hc → R D) (em : EM) : EM := fun ρ h => (em ρ h).bind fun d h1 => match d with
  | .lam i => (match lamM i h1 with
    | .ex c h2 => if sub c = some true then .ok (.str ret) h2 else .bad
    | r => r)
  | _ => .bad
theorem e_toldL {sub : Nat → Option Bool} {ret : List Nat} {lamM : Nat → Hc → R D} {em : EM} {x : Str} {CS : Addr} {k : Nat} {e : Expr} {p pos : Pos} (T : ToldZ X k x CS ret) (hr : Room (k + 2) X.A) (ho : okS ret)
    (hsub : ∀ n b, sub n = some b → PySem.W.exmOne X.K (.ref (F.G.ca n)) (.ref CS) = some b) (L : ∀ i, LamZ X.prog X.w X.K X.mg X.base F.G k i (lamM i)) (he : PE X e (TrE F wx em)) (hg : L2.Gl X x := by rfl)
    (hdb : (x == ("__debug__" : Str)) = false := by decide) (hst : starEach [e] X.env = (false, eval e X.env) :: starEach [] X.env := by rfl) : PE X (.Call (.Name x p) [e] [] pos) (TrE F wx (eToldL sub ret lamM em)) := by
  refine ⟨fun pins s σ H Q I h => ?_⟩
  obtain ⟨a, e', g, pg, sg, dV, kV, doc, pm, cdv, ct, oc, an, od, osl, j, p1, p2, p3, p4, p5, p6, p7, p8, bg, hbg, hm, hk, lk, hcg, hb, Sg, hva, hge, hme, hde, hd, hcd⟩ := T.ex
  subst hbg
  refine wpAny_Call_Name_kw (ld_glob I hg hm ?_ hdb)
  refine PySem.W.callWith_K (h₀ := X.base) I.ok.mod.kin hk ?_ hst (by rfl)
  obtain ⟨W, ρ, hp, gd, h⟩ := h
  have ha : PA X [e] (tCons (TrE F wx em) tNil) := pa_cons he pa_nil hst
  refine thn (ha.run pos pins s σ H (fun vs H1 => ∃ f W1 hp1 i, vs = [.ref f] ∧ LamAt F.G H1 i f ∧ St0 F.G W1 H1 hp1 ∧ FinF F.G W1 H1 Q (fun cls _ H' => ∃ b, PySem.W.exmOne X.K cls (.ref CS) = some b ∧ (b = true → Q (.str ⟨ret.toArray⟩) H') ∧ (b = false → False)) (lamM i hp1)) I ⟨W, ρ, hp, gd, Fin.bind h fun d hp1 W1 v H1 x1 s1 r1 h1 => ?_⟩) fun us s1 ⟨vs, H1, I1, rv, f, W1, hp1, i, ev, la, st, fin⟩ => ⟨I1.kIn, ?_⟩
  · split at h1
    · rename_i i
      obtain ⟨f, rfl, la⟩ := r1
      refine ⟨f, W1, hp1, i, rfl, la, s1, ?_⟩
      cases z : lamM i hp1 with
      | ok d h2 => rw [z] at h1; exact h1
      | bad => rw [z] at h1; exact h1
      | ex n h2 =>
        rw [z] at h1
        have h1 : Fin F wx σ (Rep F.G) W1 H1 Q (if sub n = some true then .ok (.str ret) h2 else .bad) := h1
        split at h1
        · rename_i es
          exact fun W' H' x' s' => ⟨true, hsub n true es, fun _ => h1 W' _ H' x' s' ⟨rfl, ho⟩, fun z => by cases z⟩
        · exact h1.elim
    · exact h1.elim
  · subst ev
    obtain ⟨u, rfl, ru⟩ := rv.one
    obtain rfl : u = Value.ref f := ru
    have hcode : ∃ c q, H1 c = some (LamX.CodeO c q) := by
      obtain ⟨_, _, _, q, _, _, c, _, _, hc⟩ := la
      exact ⟨c, q, hc⟩
    obtain ⟨c, q, hc⟩ := hcode
    have rc : codeAny (model X.prog X.w) X.A (.call (.ref g) ⟨[.ref f], []⟩) (CR C8.CX0 X.stack X.prog X.w H1 s1 Q C8.E0) s1 := by
      refine LamX.run_ofS (N := [a]) (ps := [a]) (us := [.ref f]) (vs := [.ref f]) lk hcg Sg hr I1.env0 (hb s1 [.ref f] I1.kIn rfl) (.cons rfl .nil) rfl fun hr' => ?_
      obtain ⟨t', ht', hq'⟩ := LamX.told_gives (X := X) (Ng := [a]) (x := x) (q := q) (cdg := cdv) hge hme hde (fun f => rfl) f c s1 H1 Q (fun E HZ Q' => ∃ W hp, LamAt F.G HZ i f ∧ St0 F.G W HZ hp ∧ FinF F.G W HZ Q' E (lamM i hp)) (fun W' pn xe E q1 q2 tk hW =>
        PE.imp (pe_lamZ (Z := (cxOf C8.CX0 X.prog X.w X.K X.mg X.base [a] x sg g cdv X.A X.stack s1 H1 C8.E0).tr pn xe) (L i) hr' tk hW rfl hva hd hcd) fun σZ HZ Q' ⟨z1, z2, z3⟩ => ⟨z1, z3⟩) hc ⟨W1, hp1, la, st, fin⟩
      exact ⟨t', ht'.nox, hq'⟩
    refine wpAny_call (codeAny_mono rc fun r s2 hq => ?_)
    cases r with
    | error e => exact (show False from hq).elim
    | ok fl =>
      cases fl with
      | ret u => exact I1.after hq
      | next => exact False.elim hq
      | brk => exact False.elim hq
      | cont => exact False.elim hq
end
end Z

/-! Zk: glue for printed texts -/
namespace Z
open PySem PySem.Spec PyProof.Rows L2

section
variable {F : Fr} {X : Cx} {wx : WX} {k : Nat}
theorem hu64 (hr : Room k X.A) : X.A.units + 64 < cLine := by have := hr.un; omega
theorem hu65 (hr : Room k X.A) : X.A.units + 65 < cLine := by have := hr.un; omega
theorem oEq (hr : Room k X.A) : OpR X (compareOp .Eq) (rEqD X.K) := op_eqD (hu64 hr)
theorem oNe (hr : Room k X.A) : OpR X (compareOp .NotEq) (rNeD X.K) := op_neD (hu64 hr)
theorem oIn (hr : Room k X.A) : OpR X (compareOp .In) (rInAll X.K false) := o_in (hu65 hr)
theorem oNotIn (hr : Room k X.A) : OpR X (compareOp .NotIn) (rInAll X.K true) := o_notIn (hu65 hr)
theorem s_in (hK : F.G.K = X.K) : OpS F (RepB F.G) (RepB F.G) opIn (rInAll X.K false) := s_inD hK false
theorem s_notIn (hK : F.G.K = X.K) : OpS F (RepB F.G) (RepB F.G) opNotIn (rInAll X.K true) := s_inD hK true
/-- a global whole number -/
theorem e_gint {x : Str} {n : Int} {pos : Pos} (h : ∃ u, X.mg x = some u ∧ RelV (.int n) u) (hg : L2.Gl X x := by rfl) (hd : (x == ("__debug__" : Str)) = false := by decide) : PE X (.Name x pos) (TrE F wx (eC (.int n))) :=
  let ⟨_, hm, r⟩ := h
  PE.imp (pe_glob hg hm r hd) fun σ H Q ⟨W, ρ, hp, g, h⟩ => Fin.here h g.st rfl
theorem w_and1 {a : Expr} {t : TM} {pos : Pos} (h : PT X a (TrT F wx t)) : PW X (.BoolOp .And [a] pos) (TrT F wx t) := pw_and1 h
theorem w_or1 {a : Expr} {t : TM} {pos : Pos} (h : PT X a (TrT F wx t)) : PW X (.BoolOp .Or [a] pos) (TrT F wx t) := pw_or1 h
theorem a1 {e : Expr} {em : EM} (h : PE X e (TrE F wx em)) (hs : starEach [e] X.env = (false, eval e X.env) :: starEach [] X.env := by rfl) : PA X [e] (TrA F wx (aCons em aNil)) := a_cons h a_nil hs
/-- what the walk knows of an exception class: its number, its name -/
structure ExZ (K : PySem.W.Frag) (mg : Str → Option Value) (G : Gl) (c : Nat) (x : Str) : Prop where
  gm : mg x = some (.ref (G.ca c))
  ex : PySem.W.excIn K (G.ca c) [.type "ValueError", .type "Exception", .type "BaseException", .type "object"] "ValueError.__new__" = true
  kp : PySem.W.keepIn K (.ref (G.ca c)) = true
  sub : PySem.W.subIn K (.ref (G.ca c)) (.type "BaseException") = some true
  ty : PySem.W.typeIn K (.ref (G.ca c)) = some (.type "type")
theorem mk_ex {c : Nat} {x m : Str} {j : Nat} {p p2 pos : Pos} (z : ExZ X.K X.mg F.G c x) (hg : L2.Gl X x := by rfl) (hdb : (x == ("__debug__" : Str)) = false := by decide) : PMk X (.Call (.Name x p) [.Constant (.str m) j p2] [] pos) (fun _ H Q => Q (.ref (F.G.ca c)) none H) :=
  pmk_own PySem.F.excBase_ValueError z.ex z.gm z.kp (raises_own z.sub z.ty) hg hdb
/-- a def's facts as the head tells them -/
abbrev DefAt (K : PySem.W.Frag) (mg : Str → Option Value) (x : Str) (st : Stmt) : Prop := ∃ f fd, FunD K x x (defArgs st) (defBody st) (defScope st) [] [] f fd ∧ mg x = some (.ref f)
end
end Z

/-! Z17: generator expressions: their context, their loop -/
namespace Z
open PySem PySem.Spec PyProof.Rows L2 GenW

/-- the names of a generator expression: none a cell, captured ones the def's, its own ones slots -/
structure GxS (N : List Str) (sc scope : Scope) (own : List (Str × Nat)) : Prop where
  kind : scope.kind = .function
  co : scope.isCoroutine = false
  dot : scope.names.lookup (".0" : Str) = some NameKind.local
  nocell : ∀ y ∈ scope.names, y.2 ≠ .cell
  ix : ∀ p ∈ own, N[p.2]? = some p.1
  free : ∀ y ∈ scope.names, y.2 = .free → sc.names.lookup y.1 = some .cell ∨ sc.names.lookup y.1 = some .free
  own : ∀ y ∈ scope.names, y.2 = .local → y.1 ∈ own.map (·.1) ∨ y.1 ∉ N
def gxB (N : List Str) (sc scope : Scope) (own : List (Str × Nat)) : Bool :=
  decide (scope.kind = .function) && !scope.isCoroutine && decide (scope.names.lookup (".0" : Str) = some NameKind.local) && (own.all fun p => decide (N[p.2]? = some p.1)) &&
    scope.names.all fun y => match y.2 with
      | .cell => false
      | .free => (match sc.names.lookup y.1 with | some .cell => true | some .free => true | _ => false)
      | .local => decide (y.1 ∈ own.map (·.1)) || decide (y.1 ∉ N)
      | _ => true
theorem gx_by {N : List Str} {sc scope : Scope} {own : List (Str × Nat)} (h : gxB N sc scope own = true) : GxS N sc scope own := by
  unfold gxB at h
  simp only [Bool.and_eq_true, List.all_eq_true, decide_eq_true_eq, Bool.not_eq_true'] at h
  obtain ⟨⟨⟨⟨h1, h2⟩, h3⟩, h4⟩, h5⟩ := h
  refine ⟨h1, h2, h3, fun y hy e => ?_, h4, fun y hy e => ?_, fun y hy e => ?_⟩
  · have q := h5 y hy
    simp only [e] at q
    cases q
  · have q := h5 y hy
    simp only [e] at q
    split at q <;> first | exact .inl (by assumption) | exact .inr (by assumption) | cases q
  · have q := h5 y hy
    simp only [e, Bool.or_eq_true, decide_eq_true_eq] at q
    exact q
abbrev gxEnv (X : Cx) (scope : Scope) (C : Addr) (code : Value) : Env := genEnv scope (cloFrom X.env.cells scope.names []) C code builtinsNs X.env
/-- the context of a generator expression's body -/
def gxCx (X : Cx) (A : Around) (s : Shared) (H : Hp) (env : Env) (fp : List Addr) (pn : List (Addr × Obj)) : Cx :=
  { X with A := A.deeper env, s_0 := s, H_0 := H, env := env, outer := X.stack, stack := env :: X.stack, ex := fp, fn := fun _ => false, calm := true, pn := pn, xe := fun _ _ => False }
section
variable {X : Cx} {pins : List (Addr × Obj)} {σ : L2.St} {H : Hp} {s : Shared}
theorem gx_start {scope : Scope} {own : List (Str × Nat)} {fp : List Addr} {A : Around} {h5 : Heap} {g5 : Array GenState} {d5 : Drawn} {tk : Nat} {code it : Value} {C a : Addr} {go : Obj} (I : Inv X pins σ H s) (ok : GxS X.N X.env.scope scope own) (hN : X.N.Nodup) (hA : A.handled = none) (hF : A.frames = some X.stack)
    (hfp : ∀ b ∈ fp, FpOk X pins H b ∧ b < s.heap.objs.size) (hC : C = s.heap.objs.size) (ha : s.heap.objs.size < a) (hns : h5.Ns C fun y => if y = ".0" then some it else none)
    (kp : ∀ b o, s.heap.get? b = some o → h5.get? b = some o) (hgo : h5.get? a = some go) (hgd : ∀ v, go.data ≠ .cell v) (hb : AllBare g5) :
    Inv (gxCx X A s H (gxEnv X scope C code) fp [(a, go)]) [] (wipe σ (own.map (·.2))) H { s with heap := h5, gens := g5, drawn := d5, toks := tk } := by
  have fr : ∀ {y}, (y, NameKind.free) ∈ scope.names → ∃ c, X.env.cells.lookup y = some c := fun {y} hy =>
    (ok.free _ hy rfl).elim (fun k => I.ok.has _ (.inl k)) fun k => I.ok.has _ (.inr k)
  have up : ∀ {y c}, (cloFrom X.env.cells scope.names []).lookup y = some c → X.env.cells.lookup y = some c ∧ c < s.heap.objs.size := fun {y c} e => by
    rcases cloFrom_mem (PySem.mem_of_lookup e) with hm | ⟨h1, h2⟩
    · cases hm
    · obtain ⟨c1, hc⟩ := fr h1
      have e2 : c = c1 := by rw [h2, hc]; rfl
      obtain ⟨v, z⟩ := I.cell _ _ hc
      rw [e2]
      exact ⟨hc, z.lt⟩
  have dn : ∀ {y}, scope.names.lookup y = some .free → ∃ c, (cloFrom X.env.cells scope.names []).lookup y = some c := fun {y} hl =>
    mem_lookup (cloFrom_has (cells := X.env.cells) (acc := []) (PySem.mem_of_lookup hl))
  have yng : ∀ {b}, s.heap.objs.size ≤ b → b ∉ frs X.stack := fun {b} h => out_frames I h
  have okG : (gxCx X A s H (gxEnv X scope C code) fp [(a, go)]).Ok := by
    refine ⟨I.ok.mod, ok.kind, I.ok.glob, rfl, Nat.le_of_eq hC.symm, fun y z c e1 e2 => I.ok.inj y z c (up e1).1 (up e2).1, fun y hy => ?_, fun y c z _ => (by cases (show false = true from z)), fun _ => hA,
      Around.frames_deeper hF, .inr ⟨rfl, rfl⟩, fun b hb => ⟨?_, fun y c e z => ?_⟩, I.bs, Nat.le_trans I.ok.bsz I.sz, fun b o e hb => ?_, fun b hb z => ?_, I.stack, I.stkFree⟩
    · rcases (show scope.names.lookup y = some .cell ∨ scope.names.lookup y = some .free from hy) with hy | hy
      · exact absurd rfl (ok.nocell _ (PySem.mem_of_lookup hy))
      · exact dn hy
    · show b ≠ C
      rw [hC]
      exact Nat.ne_of_lt (hfp b hb).2
    · exact (hfp b hb).1.2.2.2.2.1 y c (up e).1 z
    · exact (hfp b hb).1.2.2.2.1.elim (fun z => I.ok.noex b o e z) fun z => absurd (Nat.lt_of_lt_of_le (Heap.lt_size e) (Nat.le_trans I.ok.bsz z)) (Nat.lt_irrefl _)
    · exact (List.mem_cons.mp (I.stkSub b z)).elim (hfp b hb).1.2.1 (hfp b hb).1.2.2.1
  refine ⟨okG, rfl, hb, Un.kept kp, ⟨_, hns, fun i y v e1 e2 e3 => ?_⟩, fun y c e => ?_, ?_, fun y c e => I.freeC y c (up e).1, fun p hp => ?_, I.hok.kept kp, by rw [wipe_length]; exact I.len⟩
  · obtain ⟨e2, hne⟩ := wipe_some e2
    have loc : scope.names.lookup y ≠ some .local := fun k => by
      rcases ok.own _ (PySem.mem_of_lookup k) rfl with z | z
      · obtain ⟨p, hp, hpy⟩ := List.mem_map.mp z
        have e4 := ok.ix p hp
        rw [show p.1 = y from hpy] at e4
        exact hne (List.mem_map.mpr ⟨p, hp, nodup_ix hN e4 e1⟩)
      · exact z (List.mem_of_getElem? e1)
    have k : scope.names.lookup y = some .free := by
      rcases (show Vis scope y from e3) with k | k | k
      · exact absurd k loc
      · exact absurd rfl (ok.nocell _ (PySem.mem_of_lookup k))
      · exact k
    obtain ⟨m, hn, hl⟩ := I.loc
    obtain ⟨u, r, q⟩ := hl i y v e1 e2 ((ok.free _ (PySem.mem_of_lookup k) rfl).elim (fun k => .inr (.inl k)) fun k => .inr (.inr k))
    obtain ⟨c, ec⟩ := dn k
    refine ⟨u, r, .inr ⟨.inr k, c, ec, ?_⟩⟩
    rcases q with ⟨k', _⟩ | ⟨_, c', e', z⟩
    · have k' : X.env.scope.names.lookup y = some .local := k'
      exact (ok.free _ (PySem.mem_of_lookup k) rfl).elim (fun z => by rw [show X.env.scope.names.lookup y = _ from z] at k'; cases k') fun z => by rw [show X.env.scope.names.lookup y = _ from z] at k'; cases k'
    · rw [(up ec).1] at e'
      cases e'
      exact z.keeps kp
  · obtain ⟨v, z⟩ := I.cell y c (up e).1
    exact ⟨v, z.keeps kp⟩
  · show H C = none
    exact I.hok.fresh (Nat.le_of_eq hC.symm)
  · have hp : p ∈ [(a, go)] ++ ([] : List (Addr × Obj)) := hp
    have e : p = (a, go) := by simpa using hp
    rw [e]
    refine ⟨hgo, I.hok.fresh (Nat.le_of_lt ha), ?_, yng (Nat.le_of_lt ha), hgd⟩
    show a ≠ C
    rw [hC]
    exact Nat.ne_of_gt ha
end
/-! ### what the consumer may do while the generator sleeps -/
abbrev OwT := List V → List (Addr × Obj) → Prop
/-- all but the consumer's own objects stay, those stand as OW says -/
structure KeepO (own : List Addr) (OW : OwT) (ys : List V) (s s' : Shared) : Prop where
  os : s'.os = s.os
  bare : AllBare s'.gens
  keep : ∀ b o, b ∉ own → s.heap.get? b = some o → s'.heap.get? b = some o
  ow : ∃ op : List (Addr × Obj), OW ys op ∧ op.map (·.1) = own ∧ ∀ p ∈ op, s'.heap.get? p.1 = some p.2 ∧ ∀ v, p.2.data ≠ .cell v
def GxAt (Z : Cx) (σ : L2.St) (own : List Addr) (OW : OwT) (ys : List V) (H : Hp) (s : Shared) : Prop := ∃ op : List (Addr × Obj), OW ys op ∧ op.map (·.1) = own ∧ Inv Z op σ H s
/-- the consumer's own objects are apart -/
structure OwnApart (Z : Cx) (own : List Addr) : Prop where
  yng : ∀ b ∈ own, Z.s_0.heap.objs.size ≤ b
  pn : ∀ p ∈ Z.pn, p.1 ∉ own
  cell : ∀ x c, Z.env.cells.lookup x = some c → c ∉ own
  ex : ∀ b ∈ Z.ex, b ∉ own
theorem inv_gens {X : Cx} {pins : List (Addr × Obj)} {σ : L2.St} {H : Hp} {s s' : Shared} (I : Inv X pins σ H s) (hh : s'.heap = s.heap) (ho : s'.os = s.os) (hb : AllBare s'.gens) : Inv X pins σ H s' := by
  obtain ⟨h, g, d, t, o⟩ := s'
  cases hh
  cases ho
  exact ⟨I.ok, I.os, hb, I.base, I.loc, I.cell, I.free, I.freeC, I.pin, I.hok, I.len⟩
theorem GxAt.keep {Z : Cx} {σ : L2.St} {own : List Addr} {OW : OwT} {ys ys' : List V} {H : Hp} {s s' : Shared} (h : GxAt Z σ own OW ys H s) (k : KeepO own OW ys' s s') (ap : OwnApart Z own) : GxAt Z σ own OW ys' H s' := by
  obtain ⟨op, _, ho, I⟩ := h
  obtain ⟨op', w', ho', hp'⟩ := k.ow
  have at_ : ∀ b ∈ own, H b = none ∧ b ≠ Z.env.locals ∧ b ∉ Z.fs := fun b hb => by
    rw [← ho] at hb
    obtain ⟨p, hp, e⟩ := List.mem_map.mp hb
    have q := I.pin p (List.mem_append_right _ hp)
    rw [e] at q
    exact ⟨q.2.1, q.2.2.1, q.2.2.2.1⟩
  have I0 : Inv Z [] σ H s := I.pins_of fun p hp => absurd hp (by simp)
  have J := I0.turnedL (ch := own) (h' := s'.heap) (t' := s'.toks) (fun b o hb e => k.keep b o hb e) fun b hb => ⟨(at_ b hb).1, (at_ b hb).2.1, (at_ b hb).2.2, .inr (ap.yng b hb), fun x c e z => ap.cell x c e (by rw [z]; exact hb), fun p hp z => by
    rw [List.append_nil] at hp
    exact ap.pn p hp (by rw [z]; exact hb)⟩
  have J2 : Inv Z [] σ H s' := inv_gens J rfl k.os k.bare
  refine ⟨op', w', ho', J2.pins_of fun p hp => ?_⟩
  have hb : p.1 ∈ own := by rw [← ho']; exact List.mem_map.mpr ⟨p, hp, rfl⟩
  exact ⟨(hp' p hp).1, (at_ _ hb).1, (at_ _ hb).2.1, (at_ _ hb).2.2, (hp' p hp).2⟩
def GxY (Z : Cx) (own : List Addr) (OW : OwT) (YP : List V → V → Hp → Prop) (N : Nat) : Protocol := fun n _ v s kap =>
  ∃ ys y H σ', n + 1 + ys.length = N ∧ ys.length + 1 < N ∧ RelV y v ∧ YP ys y H ∧ GxAt Z σ' own OW ys H s ∧ ∀ s', KeepO own OW (ys ++ [y]) s s' → kap (.send .none) s'
def GxF (Z : Cx) (own : List Addr) (OW : OwT) (GD : List V → Hp → Prop) (N : Nat) : Nat → Shared → Shared → Prop := fun n _ s => ∃ ys H σ', n + ys.length = N ∧ GD ys H ∧ GxAt Z σ' own OW ys H s
abbrev GxR (F : Nat → Shared → Shared → Prop) : GenEnd := fun n s₀ r s₁ => ((r = .ok (.ret .none) ∨ r = .ok .next) ∧ F n s₀ s₁) ∨ ∃ e, r = .error e ∧ (fun (_ : Value) (_ : Shared) => False) e s₁
/-- what a turn asks: i the turn, ys what is out, m a measure -/
abbrev GxW := Nat → List V → Nat → Hp → Prop
def tGx (g : TG) (tt : TT) (te : TE) (vs : List Nat) (σ : L2.St) (J : It) (YP : List V → V → Hp → Prop) (GD : List V → Hp → Prop) (N : Nat) (W : GxW) : Prop := ∀ i ys m H, W i ys m H →
  (J.stop i H ∧ GD ys H) ∨ (J.go i H ∧ ∃ Nx : List V → Hp → Prop, (∀ ys' H', Nx ys' H' → ∃ m', m' < m ∧ W (i + 1) ys' m' H') ∧ ∀ x H', J.yld i H x H' → g x (wipe σ vs) H' fun σ2 H2 => wipe σ2 vs = wipe σ vs ∧ tt σ2 H2 fun b H3 =>
    if b = true then te σ2 H3 fun y H4 => ys.length + 1 < N ∧ YP ys y H4 ∧ Nx (ys ++ [y]) H4 else Nx ys H3)
section
variable {Z : Cx} {B : Around} {σ : L2.St} {fp own : List Addr} {OW : OwT} {YP : List V → V → Hp → Prop} {GD : List V → Hp → Prop} {N : Nat} {W : GxW} {vs : List Nat} {tg elt iter : Expr} {ifs : List Expr} {scope : Scope} {pos : Pos} {J : It} {it : Addr} {tn : Nat → Heap → Prop} {gt : TG} {tt : TT} {te : TE}
theorem gx_loop (T : Turn Z.prog Z.w Z.K tg J fp it tn) (hxe : Z.xe = fun _ _ => False) (hex : Z.ex = fp) (hc : Z.calm = true) (hov : B.over (.compLoop (.GeneratorExp elt [⟨tg, iter, ifs, 0⟩] scope pos) 0 (.ref it) .none Z.env) [] = Z.A) (hco : Z.env.scope.isCoroutine = false)
    (ap : OwnApart Z own) (hpf : ∀ p ∈ Z.pn, p.1 ∉ fp) (pg : PG Z tg gt) (pt : PTs Z ifs tt) (pe : PE Z elt te) (turn : tGx gt tt te vs σ J YP GD N W) :
    ∀ (m i : Nat) (ys : List V) (n : Nat) (s₀ s : Shared) (H : Hp), n + ys.length = N → ys.length < N → GxAt Z (wipe σ vs) own OW ys H s → tn i s.heap → (∀ b ∈ fp, H b = none) → W i ys m H →
      Seg (model Z.prog Z.w) B (GxR (GxF Z own OW GD N)) (GxY Z own OW YP N) n s₀ (.compLoop (.GeneratorExp elt [⟨tg, iter, ifs, 0⟩] scope pos) 0 (.ref it) .none Z.env)
        ((model Z.prog Z.w).den (.compLoop (.GeneratorExp elt [⟨tg, iter, ifs, 0⟩] scope pos) 0 (.ref it) .none Z.env)) [] s := by
  intro m
  induction m using Nat.strongRecOn with
  | ind m ih =>
    intro i ys n s₀ s H hn hlt hat st hfn w
    obtain ⟨op, hw, hop, I⟩ := hat
    have stat : ∀ {σ' : L2.St} {H' : Hp} {s' : Shared} {op' : List (Addr × Obj)}, Inv Z op' σ' H' s' → op'.map (·.1) = own → (∀ b ∈ fp, H' b = none) → ∀ b ∈ fp, FpOk Z op' H' b := fun {σ' H' s' op'} I' ho' hn' b hb =>
      ⟨hn' b hb, (I'.ok.exf b (by rw [hex]; exact hb)).1, I'.ok.exfs b (by rw [hex]; exact hb), .inl (by rw [hex]; exact hb), fun x c e => (I'.ok.exf b (by rw [hex]; exact hb)).2 x c e, fun p hp z => by
        rcases List.mem_append.mp hp with hp | hp
        · exact hpf p hp (by rw [z]; exact hb)
        · exact ap.ex b (by rw [hex]; exact hb) (by rw [← ho', ← z]; exact List.mem_map.mpr ⟨p, hp, rfl⟩)⟩
    have fl : ∀ {α : Type} {t : Sem α} {Q Q' : α → Shared → Prop} {E : Value → Shared → Prop} {s : Shared}, wpAny (model Z.prog Z.w) Z.A t Q Z.xe s → (∀ a s, Q a s → Q' a s) → wpAny (model Z.prog Z.w) (B.over (.compLoop (.GeneratorExp elt [⟨tg, iter, ifs, 0⟩] scope pos) 0 (.ref it) .none Z.env) []) t Q' E s := fun {α t Q Q' E s} h k => by
      rw [hov]
      rw [hxe] at h
      exact wpAny_mono h k fun _ _ z => False.elim z
    show Seg _ B _ _ _ s₀ _ ((compTurn (.GeneratorExp elt [⟨tg, iter, ifs, 0⟩] scope pos) 0 (.ref it) .none Z.env).onRaise (leaving Z.env)) [] s
    rw [compTurn_gen, Sem.onRaise_eq_wrap]
    refine seg_bind_wrap (wpAny_standAt ?_)
    rcases turn i ys m H w with ⟨stop, gd⟩ | ⟨go, Nx, hNx, step⟩
    · refine seg_bind_wrap (fl (T.done Z rfl rfl rfl hc i op s _ H Z.xe I (stat I hop hfn) st stop) fun r s1 ⟨hr, I1⟩ => ?_)
      subst hr
      exact seg_end (.ok .next) (.inl ⟨.inr rfl, ys, H, _, hn, gd, op, hw, hop, I1⟩)
    · refine seg_bind_wrap (fl (T.item Z rfl rfl rfl hc i op s _ H Z.xe I (stat I hop hfn) st go) fun r s1 ⟨u, hr, h1⟩ => ?_)
      subst hr
      refine seg_bind_wrap (fl h1 fun _ s2 ⟨x, H2, I2, r2, y2, st2, n2⟩ => ?_)
      have I2' := I2.pinned (stat I2 hop n2) (T.obj _ _ st2)
      refine seg_bind_wrap (fl (pg.run _ s2 _ H2 x u _ I2' r2 (step x H2 y2)) fun _ s3 ⟨σ3, H3, I3, hw3, q3⟩ => ?_)
      refine seg_bind_wrap (fl (pt.run _ s3 σ3 H3 _ I3 q3) fun b s4 ⟨H4, I4, q4⟩ => ?_)
      -- the turn's end
      have fin : ∀ {s' : Shared} {H' : Hp}, Inv Z (op ++ pinsAt fp s2.heap) σ3 H' s' → Inv Z op (wipe σ vs) H' s' ∧ tn (i + 1) s'.heap ∧ ∀ b ∈ fp, H' b = none := fun {s' H'} I' => by
        have pin' : ∀ b ∈ fp, ∀ o, s2.heap.get? b = some o → s'.heap.get? b = some o ∧ H' b = none := fun b hb o e =>
          let z := I'.pin (b, o) (List.mem_append_right _ (List.mem_append_right _ (mem_pinsAt hb e)))
          ⟨z.1, z.2.1⟩
        refine ⟨I'.unpinned.weak (by rw [← hw3, wipe_length]) fun j v e => ?_, T.keep _ _ _ st2 fun b hb o e => (pin' b hb o e).1, fun b hb => ?_⟩
        · rw [← hw3] at e
          exact (wipe_some e).1
        · obtain ⟨o, e, _⟩ := T.obj _ _ st2 b hb
          exact (pin' b hb o e).2
      cases b with
      | false =>
        simp only [Bool.false_eq_true, if_false] at q4 ⊢
        obtain ⟨m', hm, w'⟩ := hNx ys H4 q4
        obtain ⟨J4, t4, f4⟩ := fin I4
        exact seg_again rfl (ih m' hm (i + 1) ys n s₀ s4 H4 hn hlt ⟨op, hw, hop, J4⟩ t4 f4 w')
      | true =>
        simp only [if_true] at q4 ⊢
        have hy : ∀ v, yieldOut Z.env v = yieldValue v := fun v => by simp only [yieldOut, hco, Bool.false_eq_true, if_false]
        simp only [hy]
        rw [Sem.bind_eq_wrap', Sem.bind_eq_wrap', Sem.wrap_wrap, Sem.wrap_wrap]
        refine seg_wrap (fl (pe.run _ s4 σ3 H4 _ I4 q4) fun y s5 ⟨yv, H5, I5, r5, hlt5, yp, nx⟩ => ?_)
        obtain ⟨m', hm, w'⟩ := hNx _ H5 nx
        obtain ⟨J5, t5, f5⟩ := fin I5
        obtain ⟨n, rfl⟩ : ∃ k, n = k + 1 := ⟨n - 1, by omega⟩
        have at5 : GxAt Z (wipe σ vs) own OW ys H5 s5 := ⟨op, hw, hop, J5⟩
        refine seg_at (seg_yield rfl rfl rfl ⟨ys, yv, H5, _, hn, hlt5, r5, yp, at5, fun s6 k6 => ?_⟩)
        refine seg_again rfl (ih m' hm (i + 1) (ys ++ [yv]) n s6 s6 H5 (by rw [List.length_append, List.length_singleton]; omega) (by rw [List.length_append, List.length_singleton]; exact hlt5) (at5.keep k6 ap) (T.keep _ _ _ t5 fun b hb o e => k6.keep b o (ap.ex b (by rw [hex]; exact hb)) e) f5 w')
end
end Z

/-! Z18: a generator is made, asked for its next item -/
namespace Z
open PySem PySem.Spec PyProof.Rows L2 GenW

section
variable {Z : Cx} {B : Around} {σ : L2.St} {fp own : List Addr} {OW : OwT} {YP : List V → V → Hp → Prop} {GD : List V → Hp → Prop} {N : Nat} {W : GxW} {vs : List Nat} {tg elt iter : Expr} {ifs : List Expr} {scope : Scope} {pos : Pos} {J : It} {it : Addr} {tn : Nat → Heap → Prop} {gt : TG} {tt : TT} {te : TE}
theorem gx_begin (T : Turn Z.prog Z.w Z.K tg J fp it tn) (hxe : Z.xe = fun _ _ => False) (hex : Z.ex = fp) (hc : Z.calm = true) (hov : B.over (.compLoop (.GeneratorExp elt [⟨tg, iter, ifs, 0⟩] scope pos) 0 (.ref it) .none Z.env) [] = Z.A) (hco : Z.env.scope.isCoroutine = false)
    (ap : OwnApart Z own) (hpf : ∀ p ∈ Z.pn, p.1 ∉ fp) (pg : PG Z tg gt) (pt : PTs Z ifs tt) (pe : PE Z elt te) (turn : tGx gt tt te vs σ J YP GD N W) (hN : 0 < N) {m : Nat} {s₀ s : Shared} {H : Hp} (hat : GxAt Z (wipe σ vs) own OW [] H s) (st : tn 0 s.heap) (hfn : ∀ b ∈ fp, H b = none) (w : W 0 [] m H) :
    Seg (model Z.prog Z.w) B (GxR (GxF Z own OW GD N)) (GxY Z own OW YP N) N s₀ (.compStart (.GeneratorExp elt [⟨tg, iter, ifs, 0⟩] scope pos) 0 (.ref it) .none Z.env)
      ((model Z.prog Z.w).den (.compStart (.GeneratorExp elt [⟨tg, iter, ifs, 0⟩] scope pos) 0 (.ref it) .none Z.env)) [] s := by
  have loop := gx_loop (B := B) (scope := scope) (pos := pos) (iter := iter) T hxe hex hc hov hco ap hpf pg pt pe turn m 0 [] N s₀ s H rfl hN hat st hfn w
  show Seg _ B _ _ _ s₀ _ ((compStart (.GeneratorExp elt [⟨tg, iter, ifs, 0⟩] scope pos) 0 (.ref it) .none Z.env).onRaise (leaving Z.env)) [] s
  unfold compStart
  rw [Sem.onRaise_eq_wrap]
  show Seg _ B _ _ _ s₀ _ ((ask >>= _).wrap _ _ _ _) [] s
  refine seg_bind_wrap (wpAny_askSetting ?_)
  split
  · exact seg_again rfl loop
  · first
      | exact seg_bind_wrap (wpAny_rule (seg_bind_wrap (wpAny_standAt (seg_bind_wrap (T.self _ 0 s _ _ st (seg_again rfl loop))))))
      | (refine seg_bind_wrap (wpAny_rule ?_); show Seg _ B _ _ _ s₀ _ ((standAt iter.pos >>= _).wrap _ _ _ _) [] s; exact seg_bind_wrap (wpAny_standAt (seg_bind_wrap (T.self _ 0 s _ _ st (seg_again rfl loop)))))
/-- a generator at rest: n - 1 items at most are to come; ys are out -/
structure GxRest (Z : Cx) (B : Around) (own : List Addr) (OW : OwT) (YP : List V → V → Hp → Prop) (GD : List V → Hp → Prop) (N : Nat) (a : Addr) (g n : Nat) (ys : List V) (s : Shared) : Prop where
  lim : s.heap.NoLimit
  bare : AllBare s.gens
  gen : s.heap.IsGen a g
  pos : 0 < n
  len : n + ys.length = N
  go : ∃ gs, s.gens[g]? = some gs ∧ ∀ s', KeepO own OW ys s s' → gs.Goes (model Z.prog Z.w) B (GxR (GxF Z own OW GD N)) (GxY Z own OW YP N) n (.send .none) s'
theorem GxAt.more {ys : List V} {H : Hp} {s s' : Shared} (h : GxAt Z σ own OW ys H s) (hk : ∀ b o, s.heap.get? b = some o → s'.heap.get? b = some o) (ho : s'.os = s.os) (hb : AllBare s'.gens) : GxAt Z σ own OW ys H s' := by
  obtain ⟨op, w, e, I⟩ := h
  exact ⟨op, w, e, inv_gens (s := { s with heap := s'.heap }) (I.kept (t' := s.toks) hk) rfl ho hb⟩
theorem KeepO.refl' {ys : List V} {H : Hp} {s s' : Shared} (h : GxAt Z σ own OW ys H s) (hh : s'.heap = s.heap) (ho : s'.os = s.os) (hb : AllBare s'.gens) : KeepO own OW ys s s' := by
  obtain ⟨op, w, e, I⟩ := h
  exact ⟨ho, hb, fun b o _ q => by rw [hh]; exact q, op, w, e, fun p hp => by
    have q := I.pin p (List.mem_append_right _ hp)
    exact ⟨by rw [hh]; exact q.1, q.2.2.2.2⟩⟩
theorem gx_next {Q : Option Value → Shared → Prop} {E : Value → Shared → Prop} {A : Around} {a : Addr} {g n : Nat} {ys : List V} {s1 s : Shared} {go : Obj} (hh : A.handled = none) (hd : A.depth < recursionLimit) (r : GxRest Z A.in1 own OW YP GD N a g n ys s1) (k : KeepO own OW ys s1 s) (hg : s.gens = s1.gens) (ha : a ∉ own) (hst : cStatics ∉ own)
    (hpn : (a, go) ∈ Z.pn) (hgo : ∀ h : Heap, h.get? a = some go → h.IsGen a g)
    (hY : ∀ ys y v H σ' s2, n + ys.length = N → RelV y v → YP ys y H → GxAt Z σ' own OW ys H s2 → GxRest Z A.in1 own OW YP GD N a g (n - 1) (ys ++ [y]) s2 → Q (some v) s2)
    (hD : ∀ ys H σ' s2, n + ys.length = N → GD ys H → GxAt Z σ' own OW ys H s2 → Q none s2) : wpAny (model Z.prog Z.w) A (pyNext (.ref a)) Q E s := by
  obtain ⟨lim, bare, gen, pos, len, gs, hgs, goes⟩ := r
  have gen' : s.heap.IsGen a g := by
    obtain ⟨o, nm, qn, ho, q⟩ := gen
    exact ⟨o, nm, qn, k.keep a o ha ho, q⟩
  have lim' : s.heap.NoLimit := by
    obtain ⟨mc, hns, hnn⟩ := lim
    exact ⟨mc, hns.at' fun o e => k.keep _ o hst e, hnn⟩
  have hgs' : s.gens[g]? = some gs := by rw [hg]; exact hgs
  have hgl : g < s.gens.size := (Array.getElem?_eq_some_iff.mp hgs').1
  have goes' := goes (s.setGen g .running) ⟨k.os, allBare_setGen k.bare rfl, k.keep, k.ow⟩
  have genAt : ∀ {σ' : L2.St} {ys : List V} {H : Hp} {s2 : Shared}, GxAt Z σ' own OW ys H s2 → s2.heap.IsGen a g ∧ s2.heap.NoLimit ∧ AllBare s2.gens := fun {σ' ys H s2} h => by
    obtain ⟨op, _, _, I⟩ := h
    exact ⟨hgo _ (I.pin (a, go) (List.mem_append_left _ hpn)).1, I.nolimit, I.bare⟩
  refine wpAny_gsz (n := g + 1) hgl (next_genG (A := A) hh lim' hd gen' hgs' goes' (fun v s₁ gs' hbare hv => ?_) (fun s₁ hp h' hk => ?_) fun e s₁ he => he.elim)
  · intro hsz
    obtain ⟨ys2, y, H, σ', hn2, hlt2, rv, yp, at2, kap⟩ := hv
    obtain ⟨m, rfl⟩ : ∃ m, n = m + 1 := ⟨n - 1, by omega⟩
    have hsz1 : g < s₁.gens.size := by
      have q : (s₁.setGen g gs').gens.size = s₁.gens.size := setGen_size _ _ _
      omega
    have b2 : AllBare (s₁.setGen g gs').gens := allBare_setGen (genAt at2).2.2 hbare
    refine hY ys2 y v H σ' _ (by omega) rv yp (at2.more (fun b o e => e) rfl b2) ⟨(genAt at2).2.1, b2, (genAt at2).1, by omega, by rw [List.length_append, List.length_singleton]; omega, gs', setGen_at hsz1, fun s' k' => ?_⟩
    exact kap s' ⟨k'.os, k'.bare, k'.keep, k'.ow⟩
  · intro hsz
    obtain ⟨ys2, H, σ', hn2, gd, at2⟩ := hp
    exact hD ys2 H σ' _ hn2 gd (at2.more hk rfl (allBare_setGen (genAt at2).2.2 rfl))
end
/-- what the making of a generator gives -/
structure GxMade (X : Cx) (pins : List (Addr × Obj)) (σ : L2.St) (tg elt iter : Expr) (ifs : List Expr) (scope : Scope) (pos : Pos) (J : It) (H : Hp) (a : Addr) (s5 : Shared) : Prop where
  ex : ∃ (s4 : Shared) (it C : Addr) (fp : List Addr) (tn : Nat → Heap → Prop) (g : Nat) (code : Value) (go : Obj), Inv X pins σ H s4 ∧ Turn X.prog X.w X.K tg J fp it tn ∧ (∀ b ∈ fp, FpOk X pins H b ∧ b < s4.heap.objs.size) ∧ tn 0 s5.heap ∧ C = s4.heap.objs.size ∧ s4.heap.objs.size < a ∧ a < s5.heap.objs.size ∧
    s5.heap.get? a = some go ∧ (∀ h : Heap, h.get? a = some go → h.IsGen a g) ∧ (∀ v, go.data ≠ .cell v) ∧ s5.gens[g]? = some (.fresh (.compStart (.GeneratorExp elt [⟨tg, iter, ifs, 0⟩] scope pos) 0 (.ref it) .none (gxEnv X scope C code))) ∧ AllBare s5.gens ∧ s5.os = s4.os ∧
    (∀ b o, s4.heap.get? b = some o → s5.heap.get? b = some o) ∧ s5.heap.Ns C fun y => if y = ".0" then some (.ref it) else none
section
variable {X : Cx} {pins : List (Addr × Obj)} {σ : L2.St} {H : Hp} {s : Shared} {tg elt iter : Expr} {ifs : List Expr} {scope : Scope} {own : List (Str × Nat)} {pos : Pos} {wi : TI}
theorem gx_make {k : Nat} {c P : Addr} {RI : It → Hp → Prop} {Q : Value → Shared → Prop} (hr : Room k X.A) (TB : LamX.TabB X.base X.mg c P) (code : X.env.code = .ref c) (ok : GxS X.N X.env.scope scope own) (I : Inv X pins σ H s) (hi : PI X tg iter wi)
    (h : wi σ H fun J H1 => LamX.TabS H1 P (X.env.qual ++ "<genexpr>") ∧ RI J H1) (hs : ∀ x, genFold iter X.env x = pure x)
    (hQ : ∀ J H1 H2 a c' s5, RI J H1 → (H2 = H1 ∨ Noted P c' (X.env.qual ++ "<genexpr>") H1 H2) → GxMade X pins σ tg elt iter ifs scope pos J H2 a s5 → Q (.ref a) s5) : wpAny (model X.prog X.w) X.A (eval (.GeneratorExp elt [⟨tg, iter, ifs, 0⟩] scope pos) X.env) Q X.xe s := by
  have fr : ∀ y ∈ scope.names, y.2 = .free → ∃ c, X.env.cells.lookup y.1 = some c := fun y hy e => (ok.free _ hy e).elim (fun k => I.ok.has _ (.inl k)) fun k => I.ok.has _ (.inr k)
  refine wpAny_GeneratorExp_make ok.co (closure_ok fr) ok.nocell ok.dot ok.kind (by have := hr.dp; omega) ?_ hs
  refine thn (hi.run pins s σ H _ I h) fun xv s1 h1 => thn h1 fun itv s2 h2 => ?_
  obtain ⟨it, fp, tn, J, H1, e, I1, T, st, fpo, ⟨ps, eP, tri, among⟩, ri⟩ := h2
  subst e
  refine ⟨I1.nolimit, ?_⟩
  have gP : s2.heap.get? P = some { cls := .none, data := .fields ps } := I1.hok P _ eP
  have cd := TB.code.keeps I1.bk
  obtain ⟨bm, ob, b1, b2, b3, b4, b5, b6, b7, b8⟩ := TB.bm
  have sz : ∀ b ∈ fp, b < s2.heap.objs.size := fun b hb => by
    obtain ⟨o, e, _⟩ := T.obj _ _ st b hb
    exact Heap.lt_size e
  have nP : P ∉ fp := fun hb => by
    have q := (fpo P hb).1
    rw [eP] at q
    cases q
  -- behind the code object
  have rest : ∀ (code' : Value) (c' : Addr) (h3 : Heap) (tk : Nat) (H2 : Hp), Inv X pins σ H2 { s2 with heap := h3, toks := tk } → (H2 = H1 ∨ Noted P c' (X.env.qual ++ "<genexpr>") H1 H2) → (H2 = H1 ∨ s2.heap.objs.size ≤ c') → (∀ b o, b ≠ P → s2.heap.get? b = some o → h3.get? b = some o) → s2.heap.objs.size ≤ h3.objs.size →
      wpAny (model X.prog X.w) X.A (builtinsFor X.env.globals X.env.builtins) (fun bi s₄ => ∀ h', h'.Ns s₄.heap.objs.size (fun y => if y = ".0" then some (.ref it) else none) → Heap.SameBut s₄.heap.objs.size (s₄.heap.push { cls := .type "frame", data := .dict #[] }) h' →
        Q (.ref h'.objs.size) { s₄ with
          gens := s₄.gens.push (.fresh (.compStart (.GeneratorExp elt [⟨tg, iter, ifs, 0⟩] scope pos) 0 (.ref it) .none (genEnv scope (cloFrom X.env.cells scope.names []) s₄.heap.objs.size code' bi X.env))),
          toks := s₄.toks + 1 + 1 + 1,
          heap := h'.push { cls := .type "generator", data := .fields #[.int s₄.gens.size 0, .str "<genexpr>" (s₄.toks + 1), .str (X.env.qual ++ "<genexpr>") (s₄.toks + 1 + 1)] } }) X.xe { s2 with heap := h3, toks := tk } := by
    intro code' c' h3 tk H2 I2 nt hcz kp hsz
    have k2 : ∀ b u, X.base.get? b = some u → h3.get? b = some u := fun b u e => I2.bk b u e
    refine wpAny_builtinsFor (m := X.mg) (by rw [I2.ok.glob]; exact I2.mod.glob.keeps I2.bk) b1 b2 (k2 _ _ b5) b6 b7 b8 fun h' hns hsb => ?_
    have sz' : h'.objs.size = h3.objs.size + 1 := by rw [hsb.1, Heap.size_push]
    have kp' : ∀ b o, h3.get? b = some o → h'.get? b = some o := fun b o e => hsb.extBut b o (Nat.ne_of_lt (Heap.lt_size e)) (Heap.get?_push_of_some _ e)
    have fn2 : ∀ b ∈ fp, H2 b = none := fun b hb => by
      rcases nt with rfl | ⟨⟨qs, more, q1, q2, q3⟩, _⟩
      · exact (fpo b hb).1
      rcases hcz with rfl | hcz
      · exact (fpo b hb).1
      · rw [q3, upd_ne (fun z => Nat.lt_irrefl _ (Nat.lt_of_lt_of_le (sz b hb) (by rw [z]; exact hcz))), upd_ne (fun z => nP (by rw [← z]; exact hb))]
        exact (fpo b hb).1
    refine hQ J H1 H2 h'.objs.size c' _ ri nt ⟨⟨{ s2 with heap := h3, toks := tk }, it, h3.objs.size, fp, tn, s2.gens.size, code', _, I2, T, fun b hb => ⟨⟨fn2 b hb, (fpo b hb).2⟩, Nat.lt_of_lt_of_le (sz b hb) hsz⟩, T.keep _ _ _ st fun b hb o e => ?_, rfl, ?_, ?_, Heap.get?_push_size _ rfl, fun h e => ⟨_, _, _, e, rfl, rfl, rfl⟩, fun v z => ?_, Array.getElem?_push_size .., AllBare.push I2.bare rfl, rfl, fun b o e => Heap.get?_push_of_some _ (kp' b o e), hns.push _⟩⟩
    · exact Heap.get?_push_of_some _ (kp' b o (kp b o (fun z => nP (by rw [← z]; exact hb)) e))
    · show h3.objs.size < h'.objs.size
      omega
    · show h'.objs.size < (h'.push _).objs.size
      rw [Heap.size_push]
      exact Nat.lt_succ_self _
    · cases z
  cases am : codeAmong pos ps.toList with
  | some cv =>
    obtain ⟨a, ea, ka⟩ := among pos cv am
    subst ea
    exact wpAny_genexprCode_hit code (cd.code gP tri) am (rest (.ref a) a s2.heap s2.toks H1 I1 (.inl rfl) (.inl rfl) (fun b o _ e => e) (Nat.le_refl _))
  | none =>
    refine wpAny_genexprCodeX code (cd.code gP tri) (cd.tab gP) am fun a h' tk hx hge hlt _ hrec htab _ => ?_
    obtain ⟨a', oc, vs, t, ea, hoc, hd, hv⟩ := hrec
    cases ea
    have na : H1 a = none := I1.hok.fresh hge
    have J2 := LamX.inv_table (q := X.env.qual ++ "<genexpr>") (t' := tk) (more := #[rawInt pos.line, rawInt pos.col, .ref a]) (h' := h') I1 eP hx htab.2 hge ⟨oc, vs, t, hoc, hd, hv⟩
    have stay : ∀ b o, H1 b = some o → noTbl o → upd (upd H1 P (.tbl (ps ++ #[rawInt pos.line, rawInt pos.col, .ref a]))) a (LamX.CodeO a (X.env.qual ++ "<genexpr>")) b = some o := fun b o e nt => by
      rw [upd_ne (ne_of_none e na), upd_ne (fun z => nt ps (by rw [z, eP] at e; exact (Option.some.inj e).symm))]
      exact e
    refine rest (.ref a) a h' tk _ J2 (.inr ⟨⟨ps, _, eP, na, rfl⟩, _, by rw [upd_ne (ne_of_none eP na), upd_same], ?_, fun p cv hcv => ?_⟩) (.inr hge) hx (Nat.le_trans hge (Nat.le_of_lt hlt))
    · rw [show (ps ++ #[rawInt pos.line, rawInt pos.col, Value.ref a]).toList = ps.toList ++ [rawInt pos.line, rawInt pos.col, .ref a] by simp]
      exact PySem.TriplesOk_snoc _ _ _ _ tri
    · rw [show (ps ++ #[rawInt pos.line, rawInt pos.col, Value.ref a]).toList = ps.toList ++ [rawInt pos.line, rawInt pos.col, .ref a] by simp] at hcv
      rcases LamX.among_app _ tri hcv with z | z
      · obtain ⟨c0, e1, e2⟩ := among p cv z
        exact ⟨c0, e1, stay _ _ e2 LamX.codeO_ne⟩
      · exact ⟨a, z, upd_same⟩
end
end Z

/-! Z19: any, all of a generator expression -/
namespace Z
open PySem PySem.Spec PyProof.Rows L2 GenW

/-- what a generator expression hands out: each item with the heap behind it; the heap at the end -/
def genL (t : Tg) (tt : TM) (em : EM) (ρ : Rho) : List D → Hc → List (D × Hc) × Option Hc
  | [], h => ([], some h)
  | d :: ds, h => (match bindD t d ρ with
    | none => ([], none)
    | some ρ1 => (match tt ρ1 h with
      | .ok true h1 => (match em ρ1 h1 with
        | .ok y h2 => ((y, h2) :: (genL t tt em ρ ds h2).1, (genL t tt em ρ ds h2).2)
        | _ => ([], none))
      | .ok false h1 => genL t tt em ρ ds h1
      | _ => ([], none)))
def eGen {α : Type} (t : Tg) (vs : List Nat) (im : IM) (tt : TM) (em : EM) (k : List (D × Hc) → Hc → R α) : Rho → Hc → R α := fun ρ h => (im ρ h).bind fun ds h1 => if ds.length ≤ 16777216 then (match genL t tt em (wipeR ρ vs) ds h1 with
  | (yl, some hE) => k yl hE
  | _ => .bad) else .bad
section
variable {F : Fr} {X : Cx} {wx : WX} {σ : L2.St} {W W1 : Wd} {H H1 : Hp} {hp hpE : Hc} {ρ : Rho} {t : Tg} {vs : List Nat} {tt : TM} {em : EM} {ds : List D} {yl : List (D × Hc)} {J : It}
def ysD (yl : List (D × Hc)) (n : Nat) : List D := (yl.take n).map (·.1)
theorem ysD_succ {n : Nat} {d : D} {h : Hc} (e : yl[n]? = some (d, h)) : ysD yl (n + 1) = ysD yl n ++ [d] := by
  unfold ysD
  rw [List.take_add_one, List.map_append, e]
  rfl
def YPz (F : Fr) (W : Wd) (H : Hp) (yl : List (D × Hc)) : List V → V → Hp → Prop := fun ys y H' => ∃ W' d hp', yl[ys.length]? = some (d, hp') ∧ Ext W H W' H' ∧ St0 F.G W' H' hp' ∧ Reps F.G W' H' (ysD yl ys.length) ys ∧ Rep F.G W' H' d y
def GDz (F : Fr) (W : Wd) (H : Hp) (yl : List (D × Hc)) (hpE : Hc) : List V → Hp → Prop := fun ys H' => ∃ W', Ext W H W' H' ∧ St0 F.G W' H' hpE ∧ ys.length = yl.length ∧ Reps F.G W' H' (yl.map (·.1)) ys
def Wz (F : Fr) (W : Wd) (H : Hp) (t : Tg) (tt : TM) (em : EM) (ρ : Rho) (ds : List D) (yl : List (D × Hc)) (hpE : Hc) : GxW := fun i ys m H' => m = ds.length - i ∧ i ≤ ds.length ∧ ∃ W' hp', Ext W H W' H' ∧ St0 F.G W' H' hp' ∧ Reps F.G W' H' (ysD yl ys.length) ys ∧ ys.length ≤ yl.length ∧ genL t tt em ρ (ds.drop i) hp' = (yl.drop ys.length, some hpE)
theorem gx_turn (g : Gd F W ρ hp σ H) (it : ItOk F.G W H ds J) (ht : t.inn vs = true) (hyl : genL t tt em (wipeR ρ vs) ds hp = (yl, some hpE)) :
    tGx (TrG F t) (TrT F wx0 tt) (TrE F wx0 em) vs σ J (YPz F W H yl) (GDz F W H yl hpE) (yl.length + 2) (Wz F W H t tt em (wipeR ρ vs) ds yl hpE) ∧ Wz F W H t tt em (wipeR ρ vs) ds yl hpE 0 [] ds.length H := by
  refine ⟨?_, rfl, Nat.zero_le _, W, hp, Ext.refl _ _, g.st, rfl, Nat.zero_le _, by rw [List.drop_zero]; exact hyl⟩
  rintro i ys m H2 ⟨rfl, hi, W2, hp2, x2, s2, r2, hlen, e2⟩
  obtain ⟨it1, it2⟩ := it W2 H2 x2.toLk
  by_cases hlt : i < ds.length
  · refine .inr ?_
    obtain ⟨go, yld⟩ := it1 i ds[i] (List.getElem?_eq_getElem hlt)
    refine ⟨go, fun ys' H' => Wz F W H t tt em (wipeR ρ vs) ds yl hpE (i + 1) ys' (ds.length - (i + 1)) H', fun ys' H' q => ⟨ds.length - (i + 1), by omega, q⟩, fun x H3 y => ?_⟩
    obtain ⟨W3, x3, s3, r3⟩ := yld x H3 y
    rw [List.drop_eq_getElem_cons hlt] at e2
    simp only [genL] at e2
    split at e2
    · exact absurd (congrArg Prod.snd e2) (by simp)
    · rename_i ρ3 eb
      have s3 := s3 hp2 s2
      have x23 := x2.trans x3
      refine ⟨W3, wipeR ρ vs, hp2, ds[i], ρ3, (g.ext x23 s3).wipe vs, r3, eb, fun σ4 g4 o4 => ⟨(o4 vs ht).trans wipe_wipe, W3, ρ3, hp2, g4, ?_⟩⟩
      split at e2
      · rename_i h4 et
        rw [et]
        refine fun W4 b H4 x4 s4 eb => ?_
        subst eb
        rw [if_pos rfl]
        refine ⟨W4, ρ3, h4, g4.ext x4 s4, ?_⟩
        split at e2
        · rename_i yv h5 ee
          rw [ee]
          refine fun W5 v H5 x5 s5 r5 => ?_
          rw [Prod.mk.injEq] at e2
          obtain ⟨e3, e4⟩ := e2
          have hk : ys.length < yl.length := Classical.byContradiction fun z => by
            have q : yl.drop ys.length = [] := List.drop_eq_nil_of_le (Nat.le_of_not_lt z)
            rw [q] at e3
            cases e3
          rw [List.drop_eq_getElem_cons hk, List.cons.injEq] at e3
          have hget : yl[ys.length]? = some (yv, h5) := by rw [List.getElem?_eq_getElem hk, ← e3.1]
          have x35 := (x3.trans x4).trans x5
          have r5' := r2.ext x35.toLk
          refine ⟨by omega, ⟨W5, yv, h5, hget, x2.trans x35, s5, r5', r5⟩, rfl, hlt, W5, h5, x2.trans x35, s5, ?_, ?_, ?_⟩
          · rw [List.length_append, List.length_singleton, ysD_succ hget]
            exact r5'.append (Reps.one r5)
          · rw [List.length_append, List.length_singleton]
            exact hk
          · rw [List.length_append, List.length_singleton]
            exact Prod.ext e3.2 e4
        · exact absurd (congrArg Prod.snd e2) (by simp)
      · rename_i h4 et
        rw [et]
        refine fun W4 b H4 x4 s4 eb => ?_
        subst eb
        rw [if_neg Bool.false_ne_true]
        exact ⟨rfl, hlt, W4, h4, x23.trans x4, s4, r2.ext (x3.trans x4).toLk, hlen, e2⟩
      · exact absurd (congrArg Prod.snd e2) (by simp)
  · refine .inl ⟨it2 i (by omega), ?_⟩
    rw [List.drop_eq_nil_of_le (by omega)] at e2
    simp only [genL, Prod.mk.injEq, Option.some.injEq] at e2
    have hl : ys.length = yl.length := by
      have := congrArg List.length e2.1
      rw [List.length_drop, List.length_nil] at this
      omega
    refine ⟨W2, x2, by rw [← e2.2]; exact s2, hl, ?_⟩
    have : ysD yl ys.length = yl.map (·.1) := by unfold ysD; rw [hl, List.take_length]
    rw [← this]
    exact r2
end
/-! ### consumers that keep nothing -/
abbrev OW0 : OwT := fun _ op => op = []
theorem ow0 {ys : List V} : ∃ op : List (Addr × Obj), OW0 ys op ∧ op.map (·.1) = ([] : List Addr) ∧ ∀ p ∈ op, ∀ s' : Shared, s'.heap.get? p.1 = some p.2 ∧ ∀ v, p.2.data ≠ .cell v := ⟨[], rfl, rfl, fun p hp => absurd hp (by simp)⟩
theorem keep0 {ys : List V} {s : Shared} (hb : AllBare s.gens) : KeepO [] OW0 ys s s := ⟨rfl, hb, fun _ _ _ e => e, [], rfl, rfl, fun p hp => absurd hp (by simp)⟩
section
variable {Z : Cx} {YP : List V → V → Hp → Prop} {GD : List V → Hp → Prop} {N : Nat} {A : Around} {a : Addr} {g : Nat} {go : Obj} {R : Result → Shared → Prop} {CI : Nat → Prop}
theorem any_loop (hh : A.handled = none) (hd : A.depth < recursionLimit) (hpn : (a, go) ∈ Z.pn) (hgo : ∀ h : Heap, h.get? a = some go → h.IsGen a g)
    (step : ∀ ys y H σ' s2, CI ys.length → YP ys y H → GxAt Z σ' [] OW0 ys H s2 → ∃ b, y = .bl b ∧ (b = true → R (.ok (.ret (.bool true))) s2) ∧ (b = false → CI (ys.length + 1)))
    (fin : ∀ ys H σ' s2, CI ys.length → GD ys H → GxAt Z σ' [] OW0 ys H s2 → R (.ok (.ret (.bool false))) s2) :
    ∀ (n : Nat) (ys : List V) (s : Shared), GxRest Z A.in1.in1 [] OW0 YP GD N a g n ys s → CI ys.length → codeAny (model Z.prog Z.w) A (.builtin "any.loop" ⟨[.ref a], []⟩) R s := by
  intro n
  induction n with
  | zero => exact fun ys s r _ => absurd r.pos (Nat.lt_irrefl _)
  | succ n ih =>
    intro ys s r ci
    have hlen := r.len
    refine codeAny_builtin PySem.F.entry_any_loop ?_
    rw [Around.under_plainId PySem.F.plain_any_loop _]
    show wpAny _ A.in1 (pyNext (.ref a) >>= _) _ _ s
    refine wpAny_bind (gx_next (A := A.in1) hh hd r (keep0 r.bare) rfl (by simp) (by simp) hpn hgo (fun ys2 y v H σ' s2 hn rv yp at2 r2 => ?_) fun ys2 H σ' s2 hn gd at2 => ?_)
    · have el : ys2.length = ys.length := by omega
      obtain ⟨b, rfl, h1, h2⟩ := step ys2 y H σ' s2 (by rw [el]; exact ci) yp at2
      cases rv
      refine wpAny_bind (wpAny_holding (wpAny_truthy_bool ?_))
      refine wpAny_bind (wpAny_letGo ?_)
      cases b with
      | true => exact wpAny_bind (wpAny_rule (wpAny_pure (h1 rfl)))
      | false => exact wpAny_pure ⟨plainId_quiet PySem.F.plain_any_loop _, ih _ s2 r2 (by rw [List.length_append, List.length_singleton]; exact h2 rfl)⟩
    · have el : ys2.length = ys.length := by omega
      exact wpAny_bind (wpAny_rule (wpAny_pure (fin ys2 H σ' s2 (by rw [el]; exact ci) gd at2)))
theorem all_loop (hh : A.handled = none) (hd : A.depth < recursionLimit) (hpn : (a, go) ∈ Z.pn) (hgo : ∀ h : Heap, h.get? a = some go → h.IsGen a g)
    (step : ∀ ys y H σ' s2, CI ys.length → YP ys y H → GxAt Z σ' [] OW0 ys H s2 → ∃ b, y = .bl b ∧ (b = false → R (.ok (.ret (.bool false))) s2) ∧ (b = true → CI (ys.length + 1)))
    (fin : ∀ ys H σ' s2, CI ys.length → GD ys H → GxAt Z σ' [] OW0 ys H s2 → R (.ok (.ret (.bool true))) s2) :
    ∀ (n : Nat) (ys : List V) (s : Shared), GxRest Z A.in1.in1 [] OW0 YP GD N a g n ys s → CI ys.length → codeAny (model Z.prog Z.w) A (.builtin "all.loop" ⟨[.ref a], []⟩) R s := by
  intro n
  induction n with
  | zero => exact fun ys s r _ => absurd r.pos (Nat.lt_irrefl _)
  | succ n ih =>
    intro ys s r ci
    have hlen := r.len
    refine codeAny_builtin PySem.F.entry_all_loop ?_
    rw [Around.under_plainId PySem.F.plain_all_loop _]
    show wpAny _ A.in1 (pyNext (.ref a) >>= _) _ _ s
    refine wpAny_bind (gx_next (A := A.in1) hh hd r (keep0 r.bare) rfl (by simp) (by simp) hpn hgo (fun ys2 y v H σ' s2 hn rv yp at2 r2 => ?_) fun ys2 H σ' s2 hn gd at2 => ?_)
    · have el : ys2.length = ys.length := by omega
      obtain ⟨b, rfl, h1, h2⟩ := step ys2 y H σ' s2 (by rw [el]; exact ci) yp at2
      cases rv
      refine wpAny_bind (wpAny_holding (wpAny_truthy_bool ?_))
      refine wpAny_bind (wpAny_letGo ?_)
      cases b with
      | false => exact wpAny_bind (wpAny_rule (wpAny_pure (h1 rfl)))
      | true => exact wpAny_pure ⟨plainId_quiet PySem.F.plain_all_loop _, ih _ s2 r2 (by rw [List.length_append, List.length_singleton]; exact h2 rfl)⟩
    · have el : ys2.length = ys.length := by omega
      exact wpAny_bind (wpAny_rule (wpAny_pure (fin ys2 H σ' s2 (by rw [el]; exact ci) gd at2)))
end
end Z

/-! Z20: any(..), all(..) as expressions -/
namespace Z
open PySem PySem.Spec PyProof.Rows L2 GenW

section
variable {F : Fr} {X : Cx} {wx : WX} {σ : L2.St} {pins : List (Addr × Obj)} {W W1 : Wd} {H H1 : Hp} {hp hpE : Hc} {ρ : Rho} {t : Tg} {vs : List Nat} {im : IM} {tt : TM} {em : EM} {ds : List D} {yl : List (D × Hc)} {J : It} {s : Shared}
/-- a generator that was made, at rest in the state s of the consumer, whose own objects are own -/
structure GxOn (F : Fr) (X : Cx) (pins : List (Addr × Obj)) (σ : L2.St) (W : Wd) (H : Hp) (yl : List (D × Hc)) (hpE : Hc) (a : Addr) (B : Around) (own : List Addr) (OW : OwT) (s : Shared) : Prop where
  ex : ∃ (Z : Cx) (g : Nat) (go : Obj), Z.prog = X.prog ∧ Z.w = X.w ∧ (a, go) ∈ Z.pn ∧ (∀ h : Heap, h.get? a = some go → h.IsGen a g) ∧ (∀ σ' ys H' s', GxAt Z σ' own OW ys H' s' → Inv X pins σ H' s') ∧ a ∉ own ∧ cStatics ∉ own ∧
    GxRest Z B own OW (YPz F W H yl) (GDz F W H yl hpE) (yl.length + 2) a g (yl.length + 2) [] s
/-- as an around below the caller's -/
structure Below (X : Cx) (B : Around) : Prop where
  hd : B.handled = none
  fr : B.frames = X.A.frames
  dp : B.depth = X.A.depth
  un : B.units ≤ X.A.units + 8
/-- .. as it was made at s5: at rest for any consumer -/
def GxFresh (F : Fr) (X : Cx) (pins : List (Addr × Obj)) (σ : L2.St) (W : Wd) (H : Hp) (yl : List (D × Hc)) (hpE : Hc) (a : Addr) (s5 : Shared) : Prop :=
  ∀ (B : Around) (own : List Addr) (OW : OwT) (s6 : Shared), Below X B → (∀ b ∈ own, s5.heap.objs.size ≤ b) → (∀ b o, s5.heap.get? b = some o → s6.heap.get? b = some o) → s6.os = s5.os → s6.gens = s5.gens →
    (∃ op : List (Addr × Obj), OW [] op ∧ op.map (·.1) = own ∧ ∀ p ∈ op, s6.heap.get? p.1 = some p.2 ∧ ∀ v, p.2.data ≠ .cell v) → GxOn F X pins σ W H yl hpE a B own OW s6
/-- what a generator expression asks of its parts -/
structure GxP (F : Fr) (X : Cx) (k : Nat) (tg elt iter : Expr) (ifs : List Expr) (scope : Scope) (own : List (Str × Nat)) (P c : Addr) (t : Tg) (im : IM) (tt : TM) (em : EM) (wx : WX) : Prop where
  hr : Room (k + 1) X.A
  TB : LamX.TabB X.base X.mg c P
  code : X.env.code = .ref c
  tab : (P, X.env.qual ++ "<genexpr>") ∈ F.G.tl
  uni : ∀ p ∈ F.G.tl, p.1 = P → p.2 = X.env.qual ++ "<genexpr>"
  ok : GxS X.N X.env.scope scope own
  nd : X.N.Nodup
  inn : t.inn (own.map (·.2)) = true
  it : PI X tg iter (TrI F wx im)
  fold : ∀ x, genFold iter X.env x = pure x
  g : ∀ (B : Around) (s : Shared) (H : Hp) (C : Addr) (code : Value) (fp : List Addr) (pn : List (Addr × Obj)), Room k (B.deeper (gxEnv X scope C code)) → PG (gxCx X B s H (gxEnv X scope C code) fp pn) tg (TrG F t)
  t : ∀ (B : Around) (s : Shared) (H : Hp) (C : Addr) (code : Value) (fp : List Addr) (pn : List (Addr × Obj)), Room k (B.deeper (gxEnv X scope C code)) → PTs (gxCx X B s H (gxEnv X scope C code) fp pn) ifs (TrT F wx0 tt)
  e : ∀ (B : Around) (s : Shared) (H : Hp) (C : Addr) (code : Value) (fp : List Addr) (pn : List (Addr × Obj)), Room k (B.deeper (gxEnv X scope C code)) → PE (gxCx X B s H (gxEnv X scope C code) fp pn) elt (TrE F wx0 em)
theorem gx_eval0 {k : Nat} {tg elt iter : Expr} {ifs : List Expr} {scope : Scope} {own : List (Str × Nat)} {P c : Addr} {gpos : Pos} {α β : Type} {rel : Wd → Hp → α → β → Prop} {Qv : β → Hp → Prop} {kk : List (D × Hc) → Hc → R α} {Q : Value → Shared → Prop} (G : GxP F X k tg elt iter ifs scope own P c t im tt em wx)
    (I : Inv X pins σ H s) (g : Gd F W ρ hp σ H) (h : Fin F wx σ rel W H Qv (eGen t (own.map (·.2)) im tt em kk ρ hp))
    (k2 : ∀ (Wb : Wd) (Hb : Hp) (yl : List (D × Hc)) (hpE : Hc) (a : Addr) (g : Nat) (s5 : Shared), Ext W H Wb Hb → Fin F wx σ rel W H Qv (kk yl hpE) → s5.heap.IsGen a g → GxFresh F X pins σ Wb Hb yl hpE a s5 → Q (.ref a) s5) :
    wpAny (model X.prog X.w) X.A (eval (.GeneratorExp elt [⟨tg, iter, ifs, 0⟩] scope gpos) X.env) Q X.xe s := by
  obtain ⟨hr, TB, code, tab, uni, ok, nd, inn, hit, fold, hg, ht, he⟩ := G
  have hi : TrI F wx im σ H fun J H1 => LamX.TabS H1 P (X.env.qual ++ "<genexpr>") ∧ ∃ W1 hp1 ds yl hpE, Ext W H W1 H1 ∧ St0 F.G W1 H1 hp1 ∧ ItOk F.G W1 H1 ds J ∧ genL t tt em (wipeR ρ (own.map (·.2))) ds hp1 = (yl, some hpE) ∧ Fin F wx σ rel W H Qv (kk yl hpE) :=
    ⟨W, ρ, hp, g, Fin.bindN h fun ds hp1 W1 J H1 x1 s1 it h1 => ⟨s1.tl _ tab, W1, hp1, ds, by
      by_cases hl : ds.length ≤ 16777216
      case neg => rw [if_neg hl] at h1; exact h1.elim
      rw [if_pos hl] at h1
      cases z : genL t tt em (wipeR ρ (own.map (·.2))) ds hp1 with
      | mk yl e =>
        rw [z] at h1
        cases e with
        | none => exact h1.elim
        | some hpE => exact ⟨yl, hpE, x1, s1, it, rfl, h1⟩⟩⟩
  refine gx_make hr TB code ok I hit hi fold fun J H1 H2 a c' s5 ri nt made => ?_
  obtain ⟨W1, hp1, ds, yl, hpE, x1, s1, it, hyl, fin⟩ := ri
  have xs2 : Ext W1 H1 W1 H2 ∧ St0 F.G W1 H2 hp1 := by
    rcases nt with rfl | nt
    · exact ⟨Ext.refl _ _, s1⟩
    · exact nt.ext s1 uni
  obtain ⟨x2, s2⟩ := xs2
  have gb : Gd F W1 ρ hp1 σ H2 := g.ext (x1.trans x2) s2
  have it2 : ItOk F.G W1 H2 ds J := fun W' H' l => it W' H' (x2.toLk.trans l)
  obtain ⟨turn, w0⟩ := gx_turn gb it2 inn hyl
  obtain ⟨s4, itA, C, fp, tn, gn, code', go, I4, T, hfp, st, eC, hCa, ha5, hgo, hgen, hgd, hfr, hb, hos, kp, hns⟩ := made.ex
  refine k2 W1 H2 yl hpE a gn s5 (x1.trans x2) fin (hgen _ hgo) fun B oa OW s6 bl yng kp6 os6 gens6 hop => ?_
  obtain ⟨op, how, hmap, hop⟩ := hop
  have hrZ : Room k (B.deeper (gxEnv X scope C code')) := ⟨bl.hd, by have := hr.dp; show B.depth + 1 + 3 * k + 5 < _; rw [bl.dp]; omega, by have := hr.un; have := bl.un; show B.units + 3 + 16 * k + 200 < _; omega⟩
  have IZ : Inv (gxCx X B s4 H2 (gxEnv X scope C code') fp [(a, go)]) [] (wipe σ (own.map (·.2))) H2 s5 := by
    have q := gx_start (A := B) (h5 := s5.heap) (g5 := s5.gens) (d5 := s5.drawn) (tk := s5.toks) (code := code') I4 ok nd bl.hd (bl.fr.trans I.ok.frames) hfp eC hCa hns kp hgo hgd hb
    exact inv_gens q rfl hos hb
  have sz45 : s4.heap.objs.size ≤ s5.heap.objs.size := Nat.le_of_lt (Nat.lt_trans hCa ha5)
  have hb6 : AllBare s6.gens := by rw [gens6]; exact hb
  have IZ6 : Inv (gxCx X B s4 H2 (gxEnv X scope C code') fp [(a, go)]) op (wipe σ (own.map (·.2))) H2 s6 := by
    have q := inv_gens (s := { s5 with heap := s6.heap }) (s' := s6) (IZ.kept (t' := s5.toks) kp6) rfl os6 hb6
    refine q.pins_of fun p hp => ?_
    have hy : s5.heap.objs.size ≤ p.1 := yng _ (by rw [← hmap]; exact List.mem_map.mpr ⟨p, hp, rfl⟩)
    exact ⟨(hop p hp).1, IZ.hok.fresh hy, Nat.ne_of_gt (Nat.lt_of_lt_of_le IZ.lt hy), IZ.nofs hy, (hop p hp).2⟩
  have atZ : GxAt (gxCx X B s4 H2 (gxEnv X scope C code') fp [(a, go)]) (wipe σ (own.map (·.2))) oa OW [] H2 s6 := ⟨op, how, hmap, IZ6⟩
  have na : a ∉ oa := fun z => absurd (Nat.lt_of_lt_of_le ha5 (yng _ z)) (Nat.lt_irrefl _)
  have apZ : OwnApart (gxCx X B s4 H2 (gxEnv X scope C code') fp [(a, go)]) oa := ⟨fun b hb => Nat.le_trans sz45 (yng b hb), fun p hp z => by
      have e : p = (a, go) := List.mem_singleton.mp hp
      rw [e] at z
      exact na z, fun x c e z => by
      obtain ⟨v, ob, ho, _⟩ := IZ.cell x c e
      exact absurd (Nat.lt_of_lt_of_le (Heap.lt_size ho) (yng _ z)) (Nat.lt_irrefl _), fun b hb z => absurd (Nat.lt_of_lt_of_le (Nat.lt_of_lt_of_le (hfp b hb).2 sz45) (yng _ z)) (Nat.lt_irrefl _)⟩
  have nst : cStatics ∉ oa := fun z => by
    have hcl : cStatics < s5.heap.objs.size := let ⟨_, hn, _⟩ := IZ.nolimit; hn.lt
    exact absurd (Nat.lt_of_lt_of_le hcl (yng _ z)) (Nat.lt_irrefl _)
  refine ⟨gxCx X B s4 H2 (gxEnv X scope C code') fp [(a, go)], gn, go, rfl, rfl, List.mem_singleton.mpr rfl, hgen, fun σ' ys H' s' ⟨op, _, _, J'⟩ => ?_, na, nst, ?_⟩
  · exact I4.call' (ch := fp) J'.os J'.base J'.hok J'.bare fun b hb => ⟨(hfp b hb).1.2.2.2.1, (hfp b hb).1.2.1, (hfp b hb).1.2.2.2.2.1, (hfp b hb).1.2.2.2.2.2⟩
  · rw [← gens6] at hfr
    refine ⟨IZ6.nolimit, hb6, hgen _ (kp6 _ _ hgo), Nat.succ_pos _, rfl, _, hfr, fun s' k' => ⟨rfl, ?_⟩⟩
    exact gx_begin (Z := gxCx X B s4 H2 (gxEnv X scope C code') fp [(a, go)]) (B := B) (vs := own.map (·.2)) (σ := σ) T rfl rfl rfl rfl ok.co apZ (fun p hp z => by
        have e : p = (a, go) := List.mem_singleton.mp hp
        rw [e] at z
        exact absurd (Nat.lt_trans (hfp a z).2 hCa) (Nat.lt_irrefl _)) (hg _ _ _ _ _ _ _ hrZ) (ht _ _ _ _ _ _ _ hrZ) (he _ _ _ _ _ _ _ hrZ) turn (Nat.succ_pos _) (atZ.keep k' apZ)
      (T.keep _ _ _ st fun b hb o e => k'.keep b o (apZ.ex b hb) (kp6 _ _ e)) (fun b hb => (hfp b hb).1.1) w0
/-! ### any, all -/
def anyC : List (D × Hc) → Hc → R D
  | [], hE => .ok (.bl false) hE
  | (d, h) :: r, hE => match d with
    | .bl true => .ok (.bl true) h
    | .bl false => anyC r hE
    | _ => .bad
def allC : List (D × Hc) → Hc → R D
  | [], hE => .ok (.bl true) hE
  | (d, h) :: r, hE => match d with
    | .bl false => .ok (.bl false) h
    | .bl true => allC r hE
    | _ => .bad
def eAny (t : Tg) (vs : List Nat) (im : IM) (tt : TM) (em : EM) : EM := eGen t vs im tt em anyC
def eAll (t : Tg) (vs : List Nat) (im : IM) (tt : TM) (em : EM) : EM := eGen t vs im tt em allC
theorem e_any {k : Nat} {tg elt iter : Expr} {ifs : List Expr} {scope : Scope} {own : List (Str × Nat)} {P c : Addr} {p pos gpos : Pos} (G : GxP F X k tg elt iter ifs scope own P c t im tt em wx) (hm : X.mg "any" = none) (hg : L2.Gl X "any" := by rfl)
    (hst : starEach [.GeneratorExp elt [⟨tg, iter, ifs, 0⟩] scope gpos] X.env = (false, eval (.GeneratorExp elt [⟨tg, iter, ifs, 0⟩] scope gpos) X.env) :: starEach [] X.env := by rfl) :
    PE X (.Call (.Name "any" p) [.GeneratorExp elt [⟨tg, iter, ifs, 0⟩] scope gpos] [] pos) (TrE F wx (eAny t (own.map (·.2)) im tt em)) := by
  refine ⟨fun pins s σ H Q I ⟨W, ρ, hp, gd, h⟩ => ?_⟩
  refine wpAny_Call_Name_kw (ld_blt I hg hm boot_any ?_)
  refine PyProof.Rows.callWith_builtin1 ?_ hst (by rfl)
  rw [hst]
  show wpAny _ _ (spliced ((false, eval (.GeneratorExp elt [⟨tg, iter, ifs, 0⟩] scope gpos) X.env) :: backTo pos (starEach [] X.env))) _ _ s
  refine Calls.spliced_cons (gx_eval0 (gpos := gpos) G I gd h fun Wb Hb yl hpE a g0 s5 x fin hgen on => ?_)
  refine Calls.spliced_nil ?_
  obtain ⟨Z, g, go, e1, e2, hpn, hgo, back, _, _, rest⟩ := (on X.A.in1.in1 [] OW0 s5 ⟨G.hr.hd, rfl, rfl, by show X.A.units + 1 + 1 ≤ _; omega⟩ (fun b hb => absurd hb (by simp)) (fun _ _ e => e) rfl rfl ⟨[], rfl, rfl, fun p hp => absurd hp (by simp)⟩).ex
  refine PySem.call_function_tree PySem.F.kind_any PySem.F.plain_any PySem.F.entry_any (PySem.F.args_any1 _) ?_
  unfold Builtin.«any»
  refine wpAny_bind (m := oneArg "any" _) (wpAny_pure ?_)
  refine wpAny_bind (wpAny_pyIter_gen hgen ?_)
  refine wpAny_pure ⟨plainId_quiet PySem.F.plain_any_loop _, ?_⟩
  rw [← e1, ← e2]
  refine any_loop (CI := fun j => Fin F wx σ (Rep F.G) W H Q (anyC (yl.drop j) hpE)) G.hr.hd (by have := G.hr.dp; omega) hpn hgo (fun ys y H' σ' s2 ci yp at2 => ?_) (fun ys H' σ' s2 ci gd2 at2 => ?_) _ [] s5 rest fin
  · obtain ⟨W', d, hp', ey, x', st', ry, rd⟩ := yp
    have hk := (List.getElem?_eq_some_iff.mp ey).1
    rw [List.drop_eq_getElem_cons hk, (List.getElem?_eq_some_iff.mp ey).2] at ci
    cases d with
    | bl b =>
      cases rd
      refine ⟨b, rfl, fun eb => ?_, fun eb => ?_⟩
      · subst eb
        exact ⟨.bl true, H', back _ _ _ _ at2, rfl, ci W' _ H' (x.trans x') st' rfl⟩
      · subst eb
        exact ci
    | _ => exact ci.elim
  · obtain ⟨W', x', st', hl, rr⟩ := gd2
    rw [List.drop_eq_nil_of_le (Nat.le_of_eq hl.symm)] at ci
    exact ⟨.bl false, H', back _ _ _ _ at2, rfl, ci W' _ H' (x.trans x') st' rfl⟩
theorem e_all {k : Nat} {tg elt iter : Expr} {ifs : List Expr} {scope : Scope} {own : List (Str × Nat)} {P c : Addr} {p pos gpos : Pos} (G : GxP F X k tg elt iter ifs scope own P c t im tt em wx) (hm : X.mg "all" = none) (hg : L2.Gl X "all" := by rfl) (hbo : bootBuiltins "all" = some (.builtin "all") := by kernel_rfl)
    (hst : starEach [.GeneratorExp elt [⟨tg, iter, ifs, 0⟩] scope gpos] X.env = (false, eval (.GeneratorExp elt [⟨tg, iter, ifs, 0⟩] scope gpos) X.env) :: starEach [] X.env := by rfl) :
    PE X (.Call (.Name "all" p) [.GeneratorExp elt [⟨tg, iter, ifs, 0⟩] scope gpos] [] pos) (TrE F wx (eAll t (own.map (·.2)) im tt em)) := by
  refine ⟨fun pins s σ H Q I ⟨W, ρ, hp, gd, h⟩ => ?_⟩
  refine wpAny_Call_Name_kw (ld_blt I hg hm hbo ?_)
  refine PyProof.Rows.callWith_builtin1 ?_ hst (by rfl)
  rw [hst]
  show wpAny _ _ (spliced ((false, eval (.GeneratorExp elt [⟨tg, iter, ifs, 0⟩] scope gpos) X.env) :: backTo pos (starEach [] X.env))) _ _ s
  refine Calls.spliced_cons (gx_eval0 (gpos := gpos) G I gd h fun Wb Hb yl hpE a g0 s5 x fin hgen on => ?_)
  refine Calls.spliced_nil ?_
  obtain ⟨Z, g, go, e1, e2, hpn, hgo, back, _, _, rest⟩ := (on X.A.in1.in1 [] OW0 s5 ⟨G.hr.hd, rfl, rfl, by show X.A.units + 1 + 1 ≤ _; omega⟩ (fun b hb => absurd hb (by simp)) (fun _ _ e => e) rfl rfl ⟨[], rfl, rfl, fun p hp => absurd hp (by simp)⟩).ex
  refine PySem.call_function_tree PySem.F.kind_all PySem.F.plain_all PySem.F.entry_all (PySem.F.args_all1 _) ?_
  unfold Builtin.«all»
  refine wpAny_bind (m := oneArg "all" _) (wpAny_pure ?_)
  refine wpAny_bind (wpAny_pyIter_gen hgen ?_)
  refine wpAny_pure ⟨plainId_quiet PySem.F.plain_all_loop _, ?_⟩
  rw [← e1, ← e2]
  refine all_loop (CI := fun j => Fin F wx σ (Rep F.G) W H Q (allC (yl.drop j) hpE)) G.hr.hd (by have := G.hr.dp; omega) hpn hgo (fun ys y H' σ' s2 ci yp at2 => ?_) (fun ys H' σ' s2 ci gd2 at2 => ?_) _ [] s5 rest fin
  · obtain ⟨W', d, hp', ey, x', st', ry, rd⟩ := yp
    have hk := (List.getElem?_eq_some_iff.mp ey).1
    rw [List.drop_eq_getElem_cons hk, (List.getElem?_eq_some_iff.mp ey).2] at ci
    cases d with
    | bl b =>
      cases rd
      refine ⟨b, rfl, fun eb => ?_, fun eb => ?_⟩
      · subst eb
        exact ⟨.bl false, H', back _ _ _ _ at2, rfl, ci W' _ H' (x.trans x') st' rfl⟩
      · subst eb
        exact ci
    | _ => exact ci.elim
  · obtain ⟨W', x', st', hl, rr⟩ := gd2
    rw [List.drop_eq_nil_of_le (Nat.le_of_eq hl.symm)] at ci
    exact ⟨.bl true, H', back _ _ _ _ at2, rfl, ci W' _ H' (x.trans x') st' rfl⟩
end
end Z

/-! Z21: sum, tuple of a generator expression -/
namespace Z
open PySem PySem.Spec PyProof.Rows L2 GenW

def sumV : List V → Int
  | .int i :: r => i + sumV r
  | _ :: r => sumV r
  | [] => 0
theorem sumV_app : ∀ {ys : List V} {i : Int}, sumV (ys ++ [.int i]) = sumV ys + i
  | [], i => by simp [sumV]
  | y :: ys, i => by
    cases y <;> simp only [List.cons_append, sumV, sumV_app]
    omega
def inLong (i : Int) : Bool := decide (-(2 ^ 63) ≤ i) && decide (i < 2 ^ 63)
/-- the consumer's state: the sum so far -/
def OWs (S : Addr) : OwT := fun ys op => ∃ (t : Tok) (c : Nat), op = [(S, lstObj #[.int (sumV ys) t] c)]
/-- the consumer's list: what came so far -/
def OWl (S : Addr) : OwT := fun ys op => ∃ (acc : Array Value) (c : Nat), op = [(S, lstObj acc c)] ∧ Vals ys acc.toList
section
variable {Z : Cx} {YP : List V → V → Hp → Prop} {GD : List V → Hp → Prop} {N : Nat} {A : Around} {a S : Addr} {g : Nat} {go : Obj} {R : Result → Shared → Prop} {CI : List V → Prop}
theorem ow_at {σ' : L2.St} {own : List Addr} {OW : OwT} {ys : List V} {H : Hp} {s : Shared} (h : GxAt Z σ' own OW ys H s) : ∃ op, OW ys op ∧ op.map (·.1) = own ∧ ∀ p ∈ op, s.heap.get? p.1 = some p.2 ∧ ∀ v, p.2.data ≠ .cell v := by
  obtain ⟨op, w, e, I⟩ := h
  exact ⟨op, w, e, fun p hp => ⟨(I.pin p (List.mem_append_right _ hp)).1, (I.pin p (List.mem_append_right _ hp)).2.2.2.2⟩⟩
theorem sum_loop (hh : A.handled = none) (hd : A.depth < recursionLimit) (hpn : (a, go) ∈ Z.pn) (hgo : ∀ h : Heap, h.get? a = some go → h.IsGen a g) (ha : a ≠ S) (hS : cStatics ≠ S)
    (step : ∀ ys y H σ' s2, CI ys → YP ys y H → GxAt Z σ' [S] (OWs S) ys H s2 → ∃ i, y = .int i ∧ inLong i = true ∧ inLong (sumV ys + i) = true ∧ CI (ys ++ [y]))
    (hsum : ∀ ys ys', CI ys → CI ys' → ys.length = ys'.length → sumV ys = sumV ys')
    (same : ∀ ys ys' y H, YP ys' y H → CI ys → ys'.length = ys.length → CI ys') (sameD : ∀ ys ys' H, GD ys' H → CI ys → ys'.length = ys.length → CI ys')
    (fin : ∀ ys H σ' s2 t, CI ys → GD ys H → GxAt Z σ' [S] (OWs S) ys H s2 → R (.ok (.ret (.int (sumV ys) t))) s2) :
    ∀ (n : Nat) (ys : List V) (s1 s : Shared), GxRest Z A.in1.in1 [S] (OWs S) YP GD N a g n ys s1 → KeepO [S] (OWs S) ys s1 s → s.gens = s1.gens → CI ys → codeAny (model Z.prog Z.w) A (.builtin "sum.loop" ⟨[.ref a, .ref S, rawInt 0, rawInt 0], []⟩) R s := by
  intro n
  induction n with
  | zero => exact fun ys s1 s r _ _ _ => absurd r.pos (Nat.lt_irrefl _)
  | succ n ih =>
    intro ys s1 s r k eg ci
    have hlen := r.len
    have k' := k
    obtain ⟨_, _, _, op, ⟨t0, c0, eop⟩, _, hop⟩ := k'
    have hS0 := (hop (S, lstObj #[.int (sumV ys) t0] c0) (by rw [eop]; exact List.mem_singleton.mpr rfl)).1
    refine codeAny_builtin PySem.F.entry_sum_loop ?_
    rw [Around.under_plainId PySem.F.plain_sum_loop _]
    show wpAny _ A.in1 (seqItems? (.ref S) >>= _) _ _ s
    refine wpAny_bind (wpAny_seqItems hS0 rfl ?_)
    show wpAny _ A.in1 (tryCatch (pyNext (.ref a)) _ >>= _) _ _ s
    refine wpAny_bind (wpAny_tryCatch (gx_next (A := A.in1) hh hd r k eg (by simpa using ha) (by simpa using hS) hpn hgo (fun ys2 y v H σ' s2 hn rv yp at2 r2 => ?_) fun ys2 H σ' s2 hn gd at2 => ?_))
    · have el : ys2.length = ys.length := by omega
      have ci2 := same ys ys2 y H yp ci el
      obtain ⟨i, rfl, l1, l2, ci3⟩ := step ys2 y H σ' s2 ci2 yp at2
      obtain ⟨tv, rfl⟩ := rv
      have esum := hsum ys2 ys ci2 ci el
      obtain ⟨op2, ⟨t2, c2, eop2⟩, _, hop2⟩ := ow_at at2
      have hS2 := (hop2 (S, lstObj #[.int (sumV ys2) t2] c2) (by rw [eop2]; exact List.mem_singleton.mpr rfl)).1
      have hc : ((decide (-(2 ^ 63) ≤ i) && decide (i < 2 ^ 63)) && (decide (-(2 ^ 63) ≤ sumV ys + i) && decide (sumV ys + i < 2 ^ 63))) = true := by
        rw [← esum]
        unfold inLong at l1 l2
        rw [l1, l2]
        rfl
      have hb2 : AllBare s2.gens := r2.bare
      show wpAny _ A.in1 (if (_ : Bool) = true then (mkInt (sumV ys + i) >>= _) else _) _ _ _
      split
      · refine wpAny_bind (wpAny_mkInt ?_)
        show wpAny _ A.in1 (updateSeq S (fun _ => #[.int (sumV ys + i) s2.toks]) >>= _) _ _ _
        refine wpAny_bind ?_
        obtain ⟨c3, e3⟩ : ∃ c3, (s2.heap.update S (Obj.mapSeq fun _ => #[.int (sumV ys + i) s2.toks])).get? S = some (lstObj #[.int (sumV ys + i) s2.toks] c3) := ⟨_, Heap.get?_update_self _ hS2 rfl⟩
        refine wpAny_updateSeq hS2 rfl (wpAny_pure ⟨plainId_quiet PySem.F.plain_sum_loop _, ih _ s2 _ r2 ⟨rfl, hb2, fun b o hb e => ?_, [(S, lstObj #[.int (sumV ys + i) s2.toks] c3)], ⟨s2.toks, c3, ?_⟩, rfl, fun p hp => ?_⟩ rfl ci3⟩)
        · exact (Heap.get?_update_other _ _ (fun h : S = b => hb (by rw [h]; exact List.mem_singleton.mpr rfl))).trans e
        · rw [sumV_app, esum]
        · rw [List.mem_singleton.mp hp]
          exact ⟨e3, fun v z => by cases z⟩
      · rename_i hneg
        exact absurd hc hneg
    · have el : ys2.length = ys.length := by omega
      have ci2 := sameD ys ys2 H gd ci el
      rw [← hsum ys2 ys ci2 ci el]
      exact wpAny_pure (fin ys2 H σ' s2 t0 ci2 gd at2)
theorem ext_loop {res : Value} (hh : A.handled = none) (hd : A.depth < recursionLimit) (hpn : (a, go) ∈ Z.pn) (hgo : ∀ h : Heap, h.get? a = some go → h.IsGen a g) (ha : a ≠ S) (hS : cStatics ≠ S)
    (few : ∀ ys y H, YP ys y H → ys.length < sizeLine) (fin : ∀ ys H σ' s2, GD ys H → GxAt Z σ' [S] (OWl S) ys H s2 → R (.ok (.ret res)) s2) :
    ∀ (n : Nat) (ys : List V) (s1 s : Shared), GxRest Z A.in1.in1 [S] (OWl S) YP GD N a g n ys s1 → KeepO [S] (OWl S) ys s1 s → s.gens = s1.gens → codeAny (model Z.prog Z.w) A (.builtin "list.extend.loop" ⟨[.ref S, .ref a, res], []⟩) R s := by
  intro n
  induction n with
  | zero => exact fun ys s1 s r _ _ => absurd r.pos (Nat.lt_irrefl _)
  | succ n ih =>
    intro ys s1 s r k eg
    have hlen := r.len
    refine codeAny_builtin PySem.F.entry_extend_loop ?_
    rw [Around.under_plainId PySem.F.plain_extend_loop _]
    show wpAny _ A.in1 (pyNext (.ref a) >>= _) _ _ s
    refine wpAny_bind (gx_next (A := A.in1) hh hd r k eg (by simpa using ha) (by simpa using hS) hpn hgo (fun ys2 y v H σ' s2 hn rv yp at2 r2 => ?_) fun ys2 H σ' s2 hn gd at2 => wpAny_pure (fin ys2 H σ' s2 gd at2))
    obtain ⟨op2, ⟨acc, c2, eop2, va⟩, _, hop2⟩ := ow_at at2
    have hS2 := (hop2 (S, lstObj acc c2) (by rw [eop2]; exact List.mem_singleton.mpr rfl)).1
    have hb2 : AllBare s2.gens := r2.bare
    have hsz : acc.size < sizeLine := by
      have e1 := va.length
      have e2 : acc.toList.length = acc.size := by simp
      have := few ys2 y H yp
      omega
    show wpAny _ A.in1 (updateSeq S (·.push v) >>= _) _ _ _
    refine wpAny_bind ?_
    obtain ⟨c3, e3⟩ : ∃ c3, (s2.heap.update S (Obj.mapSeq (·.push v))).get? S = some (lstObj (acc.push v) c3) := ⟨_, Heap.get?_update_self _ hS2 rfl⟩
    refine wpAny_updateSeq hS2 rfl (wpAny_pure ⟨plainId_quiet PySem.F.plain_extend_loop _, ih _ s2 _ r2 ⟨rfl, hb2, fun b o hb e => ?_, [(S, lstObj (acc.push v) c3)], ⟨acc.push v, c3, rfl, ?_⟩, rfl, fun p hp => ?_⟩ rfl⟩) (Nat.le_of_lt hsz) (by show (acc.push v).size ≤ sizeLine + 1; rw [Array.size_push]; omega)
    · exact (Heap.get?_update_other _ _ (fun h : S = b => hb (by rw [h]; exact List.mem_singleton.mpr rfl))).trans e
    · rw [Array.toList_push]
      exact va.append (.cons rv .nil)
    · rw [List.mem_singleton.mp hp]
      exact ⟨e3, fun v z => by cases z⟩
end
section
variable {F : Fr} {X : Cx} {wx : WX} {σ : L2.St} {pins : List (Addr × Obj)} {W Wb : Wd} {H Hb : Hp} {hpE : Hc} {yl : List (D × Hc)} {s : Shared} {a : Addr} {g : Nat} {A : Around} {E : Value → Shared → Prop}
/-- all that comes, in a list -/
theorem gx_collect {Q : List Value → Shared → Prop} (on : GxFresh F X pins σ Wb Hb yl hpE a s) (hgen : s.heap.IsGen a g) (bl : Below X A.in1.in1) (hlim : A.depth < recursionLimit) (hal : a < s.heap.objs.size) (hb : AllBare s.gens) (few : yl.length < sizeLine)
    (hQ : ∀ us H' ys s', Vals ys us → GDz F Wb Hb yl hpE ys H' → Inv X pins σ H' s' → Q us s') : wpAny (model X.prog X.w) A (collect (.ref a)) Q E s := by
  have hSa : s.heap.objs.size ≠ a := Nat.ne_of_gt hal
  unfold collect
  refine wpAny_bind (wpAny_runValue (codeAny_builtin PySem.F.entry_proto_collect ?_))
  rw [Around.under_plainId PySem.F.plain_proto_collect _]
  show wpAny _ A.in1 (newList [] >>= fun l => again (.builtin "list.__iadd__" ⟨[l, .ref a], []⟩)) _ _ s
  refine wpAny_bind (wpAny_newObj_type ?_)
  refine wpAny_pure ⟨plainId_quiet PySem.F.plain_list_iadd _, codeAny_builtin PySem.F.entry_list_iadd ?_⟩
  rw [Around.under_plainId PySem.F.plain_list_iadd _]
  show wpAny _ A.in1 (Builtin.List.listExtendWith (.ref s.heap.objs.size) (.ref a) (.ref s.heap.objs.size)) _ _ _
  unfold Builtin.List.listExtendWith
  have gk : ∀ {h : Heap}, (∀ b o, s.heap.get? b = some o → h.get? b = some o) → h.IsGen a g := fun {h} q => hgen.keeps q
  have p0 : ∀ b o, s.heap.get? b = some o → (s.heap.push { cls := .type "list", data := .seq ([] : List Value).toArray }).get? b = some o := fun b o e => Heap.get?_push_of_some _ e
  refine wpAny_bind (wpAny_typeOf (Heap.IsGen.typeIs (s := { s with heap := _ }) (gk p0)) ?_)
  have h1 : Builtin.List.listSameRef (.ref s.heap.objs.size) (.ref a) = false := by simp [Builtin.List.listSameRef, hSa]
  have h2 : (Value.type "generator" == Value.type "list") = false := by decide
  have h3 : (Value.type "generator" == Value.type "tuple") = false := by decide
  simp only [h1, h2, h3, Bool.or_false, Bool.false_eq_true, if_false]
  refine wpAny_bind (wpAny_pyIter_gen (s := { s with heap := _ }) (gk p0) ?_)
  refine wpAny_bind (wpAny_holding ?_)
  unfold Builtin.List.listLengthHint
  refine wpAny_bind (wpAny_specialOf (Heap.IsGen.typeIs (s := { s with heap := _ }) (gk p0)) PySem.F.gen_no_len ?_)
  show wpAny _ A.in1 (specialOf (Value.ref a) (Str.ofString "__length_hint__") >>= _) _ _ _
  refine wpAny_bind (wpAny_specialOf (Heap.IsGen.typeIs (s := { s with heap := _ }) (gk p0)) PySem.F.gen_no_hint ?_)
  refine wpAny_pure ?_
  show wpAny _ A.in1 (rule "list.extend.makes-room" >>= fun _ => Builtin.List.listTouch (.ref s.heap.objs.size) >>= fun _ =>
    again (.builtin "list.extend.loop" ⟨[.ref s.heap.objs.size, .ref a, .ref s.heap.objs.size], []⟩)) _ _ _
  refine wpAny_bind (wpAny_rule ?_)
  have q1 : (s.heap.push { cls := .type "list", data := .seq ([] : List Value).toArray }).get? s.heap.objs.size = some { cls := .type "list", data := .seq ([] : List Value).toArray } := Heap.get?_push_size _ rfl
  refine wpAny_bind ?_
  show wpAny _ A.in1 (updateSeq s.heap.objs.size (·.push .none) >>= fun _ => updateSeq s.heap.objs.size (·.pop)) _ _ _
  refine wpAny_bind (wpAny_updateSeq q1 rfl ?_)
  have q2 := Heap.get?_update_self (Obj.mapSeq (·.push Value.none)) q1 rfl
  refine wpAny_updateSeq q2 rfl ?_
  obtain ⟨c3, q3⟩ : ∃ c3, (((s.heap.push { cls := .type "list", data := .seq ([] : List Value).toArray }).update s.heap.objs.size (Obj.mapSeq (·.push Value.none))).update s.heap.objs.size (Obj.mapSeq (·.pop))).get? s.heap.objs.size = some (lstObj #[] c3) :=
    ⟨_, Heap.get?_update_self (Obj.mapSeq (·.pop)) q2 rfl⟩
  have kp : ∀ b o, s.heap.get? b = some o → (((s.heap.push { cls := .type "list", data := .seq ([] : List Value).toArray }).update s.heap.objs.size (Obj.mapSeq (·.push Value.none))).update s.heap.objs.size (Obj.mapSeq (·.pop))).get? b = some o := fun b o e => by
    have nb : s.heap.objs.size ≠ b := Nat.ne_of_gt (Heap.lt_size e)
    exact (Heap.get?_update_other _ _ nb).trans ((Heap.get?_update_other _ _ nb).trans (p0 b o e))
  obtain ⟨Z, g', go, e1, e2, hpn, hgo, back, na, nst, rest⟩ := (on A.in1.in1 [s.heap.objs.size] (OWl s.heap.objs.size) { s with heap := _ } bl (fun b hb => Nat.le_of_eq (List.mem_singleton.mp hb).symm) kp rfl rfl ⟨[(s.heap.objs.size, lstObj #[] c3)], ⟨#[], c3, rfl, .nil⟩, rfl, fun p hp => by rw [List.mem_singleton.mp hp]; exact ⟨q3, fun v z => by cases z⟩⟩).ex
  rw [← e1, ← e2]
  refine wpAny_pure ⟨plainId_quiet PySem.F.plain_extend_loop _, ?_⟩
  refine ext_loop (A := A) (S := s.heap.objs.size) (a := a) (res := .ref s.heap.objs.size) bl.hd hlim hpn hgo (fun z => na (by rw [z]; exact List.mem_singleton.mpr rfl)) (fun z => nst (by rw [z]; exact List.mem_singleton.mpr rfl)) (fun ys y H' yp => ?_) (fun ys H' σ' s2 gd at2 => ?_) _ [] _ _ rest ⟨rfl, hb, fun _ _ _ e => e, [(s.heap.objs.size, lstObj #[] c3)], ⟨#[], c3, rfl, .nil⟩, rfl, fun p hp => by rw [List.mem_singleton.mp hp]; exact ⟨q3, fun v z => by cases z⟩⟩ rfl
  · obtain ⟨_, _, _, ey, _⟩ := yp
    exact Nat.lt_trans (List.getElem?_eq_some_iff.mp ey).1 few
  · obtain ⟨op2, ⟨acc, c2, eop2, va⟩, _, hop2⟩ := ow_at at2
    have hS2 := (hop2 (s.heap.objs.size, lstObj acc c2) (by rw [eop2]; exact List.mem_singleton.mpr rfl)).1
    show wpAny _ A (load s.heap.objs.size >>= _) _ _ s2
    refine wpAny_bind (wpAny_load hS2 ?_)
    exact wpAny_pure (hQ acc.toList H' ys s2 va gd (back _ _ _ _ at2))
end
end Z

/-! Z22: tuple(..) and sum(..) of a generator expression, as expressions -/
namespace Z
open PySem PySem.Spec PyProof.Rows L2 GenW

section
variable {F : Fr} {X : Cx} {wx : WX} {σ : L2.St} {pins : List (Addr × Obj)} {W W1 : Wd} {H H1 : Hp} {hp hpE : Hc} {ρ : Rho} {t : Tg} {vs : List Nat} {im : IM} {tt : TM} {em : EM} {ds : List D} {yl : List (D × Hc)} {J : It} {s : Shared}
def tupC (yl : List (D × Hc)) (hE : Hc) : R D := if yl.length < 16777216 then .ok (.tup (yl.map (·.1))) hE else .bad
def eTupG (t : Tg) (vs : List Nat) (im : IM) (tt : TM) (em : EM) : EM := eGen t vs im tt em tupC
def sumC : Int → List (D × Hc) → Hc → R D
  | acc, [], hE => .ok (.int acc) hE
  | acc, (d, _) :: r, hE => match d with
    | .int i => if (inLong i && inLong (acc + i)) = true then sumC (acc + i) r hE else .bad
    | _ => .bad
def eSumG (t : Tg) (vs : List Nat) (im : IM) (tt : TM) (em : EM) : EM := eGen t vs im tt em (sumC 0)
theorem e_tupG {k : Nat} {tg elt iter : Expr} {ifs : List Expr} {scope : Scope} {own : List (Str × Nat)} {P c : Addr} {p pos gpos : Pos} (G : GxP F X k tg elt iter ifs scope own P c t im tt em wx) (hm : X.mg "tuple" = none) (hg : L2.Gl X "tuple" := by rfl) (hbo : bootBuiltins "tuple" = some (.type "tuple") := by kernel_rfl)
    (hst : starEach [.GeneratorExp elt [⟨tg, iter, ifs, 0⟩] scope gpos] X.env = (false, eval (.GeneratorExp elt [⟨tg, iter, ifs, 0⟩] scope gpos) X.env) :: starEach [] X.env := by rfl) :
    PE X (.Call (.Name "tuple" p) [.GeneratorExp elt [⟨tg, iter, ifs, 0⟩] scope gpos] [] pos) (TrE F wx (eTupG t (own.map (·.2)) im tt em)) := by
  refine ⟨fun pins s σ H Q I ⟨W, ρ, hp, gd, h⟩ => ?_⟩
  refine wpAny_Call_Name_kw (ld_blt I hg hm hbo ?_)
  rw [hst]
  refine PySem.callWith_type1 (gx_eval0 (gpos := gpos) G I gd h fun Wb Hb yl hpE a g0 s5 x fin hgen on => ?_)
  have hl : yl.length < 16777216 := by
    unfold tupC at fin
    split at fin
    · assumption
    · exact fin.elim
  have fin' : Fin F wx σ (Rep F.G) W H Q (.ok (.tup (yl.map (·.1))) hpE) := by
    unfold tupC at fin
    rw [if_pos hl] at fin
    exact fin
  have hTI : s5.TypeIs (.ref a) "generator" := hgen.typeIs
  refine PySem.callType_codes (Q₁ := fun obj s₁ => s₁.TypeIs obj "tuple" ∧ ∃ (v : V) (H' : Hp), Inv X pins σ H' s₁ ∧ RelV v obj ∧ Q v H') PySem.F.called_tuple (PySem.F.typeCall_tuple_1 _) PySem.F.entry_object_init ?_ fun obj s₁ h₁ =>
    ⟨h₁.1, PySem.F.args_object_init_2 obj _, PySem.object_init_meets PySem.F.called_tuple.init.lookup PySem.F.called_tuple.made (by decide) X.prog X.w X.A.in1 _ s₁ ⟨h₁.1, rfl, h₁.2⟩⟩
  refine codeAny_of_tree ?_
  refine wpAny_bind (wpAny_of_eq (PySem.F.newCall_tuple_1 _) (wpAny_pure ⟨plainId_quiet PySem.F.plain_tuple_new _, codeAny_builtin PySem.F.entry_tuple_new ?_⟩))
  rw [Around.under_plainId PySem.F.plain_tuple_new _]
  have hsub := sub_tuple_self
  have hinit := init_tuple_lookup
  have hmh := madeHere_tuple
  have hlim : X.A.in1.in1.depth < recursionLimit := by have := G.hr.dp; show X.A.depth < _; omega
  have hb5 : AllBare s5.gens := by
    obtain ⟨Z, g, go, _, _, _, _, _, _, _, rest⟩ := (on X.A.in1.in1 [] OW0 s5 ⟨G.hr.hd, rfl, rfl, by show X.A.units + 1 + 1 ≤ _; omega⟩ (fun b hb => absurd hb (by simp)) (fun _ _ e => e) rfl rfl ⟨[], rfl, rfl, fun p hp => absurd hp (by simp)⟩).ex
    exact rest.bare
  have hal : a < s5.heap.objs.size := by
    obtain ⟨o, _, _, ho, _⟩ := hgen
    exact Heap.lt_size ho
  have col : ∀ {E : Value → Shared → Prop} {Q : List Value → Shared → Prop}, (∀ us H' ys s', Vals ys us → GDz F Wb Hb yl hpE ys H' → Inv X pins σ H' s' → Q us s') → wpAny (model X.prog X.w) X.A.in1.in1 (collect (.ref a)) Q E s5 :=
    fun {_ _} h => gx_collect (F := F) (X := X) (A := X.A.in1.in1) on hgen ⟨G.hr.hd, rfl, rfl, by show X.A.units + 1 + 1 + 1 + 1 ≤ _; omega⟩ hlim hal hb5 hl h
  wp_walk using wpAny_typeOf hTI, col
  intro us H' ys s' va gd2 I'
  obtain ⟨W', x', st', hlen, rr⟩ := gd2
  show wpAny _ _ (Builtin.Tuple.tupleExact us.toArray >>= fun v => ret v) _ _ _
  unfold Builtin.Tuple.tupleExact
  have hz : us.length ≤ sizeLine := by
    rw [show us.length = ys.length from va.length.symm, hlen]
    exact Nat.le_of_lt hl
  refine wpAny_bind (wpAny_newObj_type ?_ (by show us.toArray.size ≤ sizeLine; rw [List.size_toArray]; exact hz))
  refine wpAny_pure ?_
  refine ⟨⟨_, Heap.get?_push_size _ rfl, rfl⟩, .ref s'.heap.objs.size, upd H' s'.heap.objs.size (.tup ys), ?_, rfl, Fin.mkTup st' (I'.hok.fresh (Nat.le_refl _)) rr (fin'.ext (x.trans x'))⟩
  exact I'.laid (t' := s'.toks) (fun b o e => Heap.get?_push_of_some _ e) (Nat.le_refl _) (show ObjOk X.prog X.w _ _ _ (.tup ys) from ⟨by rw [hlen]; exact Nat.le_of_lt hl, us, va, IsTup.new _ _⟩)
theorem ysD_map {yl : List (D × Hc)} : ysD yl yl.length = yl.map (·.1) := by
  unfold ysD
  rw [List.take_length]
theorem ints_app : ∀ {ds : List D} {ns : List Int} {i : Int}, ints? ds = some ns → ints? (ds ++ [.int i]) = some (ns ++ [i])
  | [], _, _, e => by cases e; rfl
  | .int j :: ds, _, i, e => by
    simp only [ints?, Option.map_eq_some_iff] at e
    obtain ⟨ms, e1, rfl⟩ := e
    show (ints? (ds ++ [.int i])).map (j :: ·) = _
    rw [ints_app e1]
    rfl
theorem sumV_ints : ∀ (ns : List Int), sumV (ns.map V.int) = ns.sum
  | [] => rfl
  | n :: ns => by
    show n + sumV (ns.map V.int) = _
    rw [sumV_ints ns, List.sum_cons]
def SumI (F : Fr) (wx : WX) (σ : L2.St) (W : Wd) (H : Hp) (Q : VK) (yl : List (D × Hc)) (hpE : Hc) (ys : List V) : Prop :=
  ∃ ns : List Int, ints? (ysD yl ys.length) = some ns ∧ sumV ys = ns.sum ∧ Fin F wx σ (Rep F.G) W H Q (sumC ns.sum (yl.drop ys.length) hpE)
theorem sumI_same {Q : VK} {G : Gl} {W2 : Wd} {H2 : Hp} {ys ys' : List V} (r : Reps G W2 H2 (ysD yl ys'.length) ys') (c : SumI F wx σ W H Q yl hpE ys) (e : ys'.length = ys.length) : SumI F wx σ W H Q yl hpE ys' := by
  obtain ⟨ns, e1, e2, f⟩ := c
  have e3 := ints_rep (by rw [e]; exact e1) r
  exact ⟨ns, by rw [e]; exact e1, by rw [e3, sumV_ints], by rw [e]; exact f⟩
theorem e_sumG {k : Nat} {tg elt iter : Expr} {ifs : List Expr} {scope : Scope} {own : List (Str × Nat)} {P c : Addr} {p pos gpos : Pos} (G : GxP F X k tg elt iter ifs scope own P c t im tt em wx) (hm : X.mg "sum" = none) (hg : L2.Gl X "sum" := by rfl)
    (hst : starEach [.GeneratorExp elt [⟨tg, iter, ifs, 0⟩] scope gpos] X.env = (false, eval (.GeneratorExp elt [⟨tg, iter, ifs, 0⟩] scope gpos) X.env) :: starEach [] X.env := by rfl) :
    PE X (.Call (.Name "sum" p) [.GeneratorExp elt [⟨tg, iter, ifs, 0⟩] scope gpos] [] pos) (TrE F wx (eSumG t (own.map (·.2)) im tt em)) := by
  refine ⟨fun pins s σ H Q I ⟨W, ρ, hp, gd, h⟩ => ?_⟩
  refine wpAny_Call_Name_kw (ld_blt I hg hm boot_sum ?_)
  refine PyProof.Rows.callWith_builtin1 ?_ hst (by rfl)
  rw [hst]
  show wpAny _ _ (spliced ((false, eval (.GeneratorExp elt [⟨tg, iter, ifs, 0⟩] scope gpos) X.env) :: backTo pos (starEach [] X.env))) _ _ s
  refine Calls.spliced_cons (gx_eval0 (gpos := gpos) G I gd h fun Wb Hb yl hpE a g0 s5 x fin hgen on => ?_)
  refine Calls.spliced_nil ?_
  have hal : a < s5.heap.objs.size := by
    obtain ⟨o, _, _, ho, _⟩ := hgen
    exact Heap.lt_size ho
  have hSa : a ≠ s5.heap.objs.size := Nat.ne_of_lt hal
  have p0 : ∀ b o, s5.heap.get? b = some o → (s5.heap.push { cls := .type "list", data := .seq #[.int 0 s5.toks] }).get? b = some o := fun b o e => Heap.get?_push_of_some _ e
  have q0 : (s5.heap.push { cls := .type "list", data := .seq #[.int 0 s5.toks] }).get? s5.heap.objs.size = some (lstObj #[.int 0 s5.toks] 0) := Heap.get?_push_size _ rfl
  refine PySem.call_function_tree PySem.F.kind_sum PySem.F.plain_sum PySem.F.entry_sum (PySem.F.args_sum1 _) ?_
  unfold Builtin.«sum»
  simp only [List.length_cons, List.length_nil]
  rw [if_neg (by decide)]
  refine wpAny_bind (wpAny_of_eq (show Builtin.Builtins.bindParams "sum" ["start"] 0 { } = pure [none] from rfl) ?_)
  refine wpAny_bind (wpAny_pyIter_gen hgen ?_)
  refine wpAny_bind (wpAny_mkInt ?_)
  refine wpAny_bind (wpAny_pure ?_)
  simp only [List.forIn_cons, List.forIn_nil]
  refine wpAny_bind (wpAny_bind (wpAny_bind (wpAny_isInstance (T := "int") (b := false) (typeIs_int _ _ _) PySem.sub_int_str ?_)))
  simp only [Bool.false_eq_true, if_false]
  refine wpAny_pure (wpAny_bind (wpAny_bind (wpAny_isInstance (T := "int") (b := false) (typeIs_int _ _ _) PySem.sub_int_bytes ?_)))
  simp only [Bool.false_eq_true, if_false]
  refine wpAny_pure (wpAny_bind (wpAny_bind (wpAny_isInstance (T := "int") (b := false) (typeIs_int _ _ _) PySem.sub_int_bytearray ?_)))
  simp only [Bool.false_eq_true, if_false]
  refine wpAny_pure (wpAny_pure ?_)
  refine wpAny_bind (wpAny_newObj_type ?_)
  refine wpAny_pure ⟨plainId_quiet PySem.F.plain_sum_loop _, ?_⟩
  obtain ⟨Z, g, go, e1, e2, hpn, hgo, back, na, nst, rest⟩ := (on X.A.in1.in1 [s5.heap.objs.size] (OWs s5.heap.objs.size) { s5 with heap := s5.heap.push { cls := .type "list", data := .seq #[.int 0 s5.toks] }, toks := s5.toks + 1 } ⟨G.hr.hd, rfl, rfl, by show X.A.units + 1 + 1 ≤ _; omega⟩ (fun b hb => Nat.le_of_eq (List.mem_singleton.mp hb).symm) p0 rfl rfl
    ⟨[(s5.heap.objs.size, lstObj #[.int 0 s5.toks] 0)], ⟨s5.toks, 0, rfl⟩, rfl, fun p hp => by rw [List.mem_singleton.mp hp]; exact ⟨q0, fun v z => by cases z⟩⟩).ex
  rw [← e1, ← e2]
  have hb5 : AllBare s5.gens := rest.bare
  refine sum_loop (A := X.A) (CI := SumI F wx σ W H Q yl hpE) G.hr.hd (by have := G.hr.dp; omega) hpn hgo hSa (fun z => nst (by rw [z]; exact List.mem_singleton.mpr rfl)) (fun ys y H' σ' s2 ci yp at2 => ?_) (fun ys ys' ci ci' e => ?_) (fun ys ys' y H' yp ci e => ?_) (fun ys ys' H' gd2 ci e => ?_) (fun ys H' σ' s2 t ci gd2 at2 => ?_) _ [] _ _ rest ⟨rfl, hb5, fun _ _ _ e => e, [(s5.heap.objs.size, lstObj #[.int 0 s5.toks] 0)], ⟨s5.toks, 0, rfl⟩, rfl, fun p hp => by rw [List.mem_singleton.mp hp]; exact ⟨q0, fun v z => by cases z⟩⟩ rfl ⟨[], rfl, rfl, fin⟩
  · obtain ⟨ns, e1, e2, f⟩ := ci
    obtain ⟨W', d, hp', ey, x', st', ry, rd⟩ := yp
    have hk := (List.getElem?_eq_some_iff.mp ey).1
    rw [List.drop_eq_getElem_cons hk, (List.getElem?_eq_some_iff.mp ey).2] at f
    cases d with
    | int i =>
      cases rd
      have f1 : Fin F wx σ (Rep F.G) W H Q (if (inLong i && inLong (ns.sum + i)) = true then sumC (ns.sum + i) (yl.drop (ys.length + 1)) hpE else .bad) := f
      split at f1
      · rename_i hc
        have hc' := Bool.and_eq_true_iff.mp hc
        refine ⟨i, rfl, hc'.1, by rw [e2]; exact hc'.2, ns ++ [i], ?_, ?_, ?_⟩
        · rw [List.length_append]
          show ints? (ysD yl (ys.length + 1)) = _
          rw [ysD_succ ey]
          exact ints_app e1
        · rw [sumV_app, e2, List.sum_append]
          simp
        · rw [List.length_append, show (ns ++ [i]).sum = ns.sum + i by rw [List.sum_append]; simp]
          exact f1
      · exact f1.elim
    | _ => exact f.elim
  · obtain ⟨ns, a1, a2, _⟩ := ci
    obtain ⟨ms, b1, b2, _⟩ := ci'
    rw [e] at a1
    rw [a1] at b1
    cases b1
    rw [a2, b2]
  · obtain ⟨_, _, _, _, _, _, ry, _⟩ := yp
    exact sumI_same ry ci e
  · obtain ⟨_, _, _, hl, rr⟩ := gd2
    exact sumI_same (by rw [hl, ysD_map]; exact rr) ci e
  · obtain ⟨ns, a1, a2, f⟩ := ci
    obtain ⟨W', x', st', hl, rr⟩ := gd2
    rw [List.drop_eq_nil_of_le (Nat.le_of_eq hl.symm)] at f
    exact ⟨.int ns.sum, H', back _ _ _ _ at2, ⟨t, by rw [a2]⟩, f W' _ H' (x.trans x') st' rfl⟩
end
end Z

/-! Z23: three at once; a def told of with its table; the def that catches; the ends of a recursion; lambdas of a text -/
namespace Z
open PySem PySem.Spec PyProof.Rows L2

section
variable {F : Fr} {X : Cx} {wx : WX} {σ : L2.St} {W : Wd} {H : Hp} {hp : Hc} {ρ : Rho} {k : Nat}
theorem takes0 : Takes X wx0 := fun u s' ⟨a, B, sI, pins, σ, H, cls, d, e, I, nb, up, sky, na, os, ag, w⟩ => w.elim
def sPar3 (i j l : Nat) (a b c : EM) : SM := fun ρ h => (a ρ h).toS ρ fun x h1 => (b ρ h1).toS ρ fun y h2 => (c ρ h2).toS ρ fun z h3 => .nx (((ρ.set i (.v x)).set j (.v y)).set l (.v z)) h3
theorem par3_imp {i j l : Nat} {a b c : EM} {D : Ends} (h : TrS F wx (sPar3 i j l a b c) D σ H) : tPar3 i j l (tCons (TrE F wx a) (tCons (TrE F wx b) (tCons (TrE F wx c) tNil))) D σ H := by
  obtain ⟨W, ρ, hp, g, h⟩ := h
  refine ⟨W, ρ, hp, g, FinS.bind g h fun x hp1 W1 v H1 x1 g1 r1 h1 => ⟨W1, ρ, hp1, g1, FinS.bind g1 h1 fun y hp2 W2 u H2 x2 g2 r2 h2 => ⟨W2, ρ, hp2, g2, FinS.bind g2 h2 fun z hp3 W3 t H3 x3 g3 r3 h3 => ⟨v, u, t, rfl, ?_⟩⟩⟩⟩
  exact h3 W3 _ H3 (((g3.set (r1.ext (x2.toLk.trans x3.toLk))).set (r2.ext x3.toLk)).set r3) (Lk.refl W3 H3)
theorem s_par3 {i j l : Nat} {x y z : Str} {a b c : Expr} {ma mb mc : EM} {px py pz pt pos : Pos} {kt k2 pt2} (hc : X.calm = true) (hN : X.N.Nodup) (ha : PE X a (TrE F wx ma)) (hb : PE X b (TrE F wx mb)) (hd : PE X c (TrE F wx mc)) (hi : X.N[i]? = some x := by rfl) (hj : X.N[j]? = some y := by rfl) (hl : X.N[l]? = some z := by rfl)
    (hij : i ≠ j := by decide) (hil : i ≠ l := by decide) (hjl : j ≠ l := by decide) (hx : X.env.scope.names.lookup x = some .local := by rfl) (hy : X.env.scope.names.lookup y = some .local := by rfl) (hz : X.env.scope.names.lookup z = some .local := by rfl)
    (hw : swappedStores [.Tuple [.Name x px, .Name y py, .Name z pz] kt pt] (.Tuple [a, b, c] k2 pt2) X.env = pure (some [x, y, z]) := by rfl)
    (hs : swapsWithSole [.Tuple [.Name x px, .Name y py, .Name z pz] kt pt] (.Tuple [a, b, c] k2 pt2) pos.line X.env = pure false := by rfl)
    (h1 : starEach [a, b, c] X.env = (false, eval a X.env) :: starEach [b, c] X.env := by rfl) (h2 : starEach [b, c] X.env = (false, eval b X.env) :: starEach [c] X.env := by rfl) (h3 : starEach [c] X.env = (false, eval c X.env) :: starEach [] X.env := by rfl) :
    PS X (.Assign [.Tuple [.Name x px, .Name y py, .Name z pz] kt pt] (.Tuple [a, b, c] k2 pt2) pos) (TrS F wx (sPar3 i j l ma mb mc)) :=
  PS.imp (ps_par3 hc hN hi hj hl hij hil hjl hx hy hz (pa_cons ha (pa_cons hb (pa_cons hd pa_nil h3) h2) h1) hw hs) fun D σ H h => par3_imp h
theorem reps3 {G : Gl} {d d2 d3 : D} {vs : List V} (r : Reps G W H [d, d2, d3] vs) : ∃ v v2 v3, vs = [v, v2, v3] ∧ Rep G W H d v ∧ Rep G W H d2 v2 ∧ Rep G W H d3 v3 := by
  obtain ⟨v, r, e, h, r⟩ := r
  obtain ⟨v2, r2, rfl, h2, r⟩ := r
  obtain ⟨v3, r3, rfl, h3, r⟩ := r
  cases r
  exact ⟨v, v2, v3, e, h, h2, h3⟩
def rngC (c : Int) : Int → Nat → List D
  | _, 0 => []
  | lo, n + 1 => .int lo :: rngC c (lo + c) n
theorem rngC_len (c : Int) : ∀ (lo : Int) (n : Nat), (rngC c lo n).length = n
  | _, 0 => rfl
  | lo, n + 1 => by rw [rngC, List.length_cons, rngC_len]
theorem rngC_get {c : Int} : ∀ {lo : Int} {n i : Nat} {d : D}, (rngC c lo n)[i]? = some d → i < n ∧ d = .int (lo + (i : Nat) * c)
  | _, 0, _, _, h => by simp [rngC] at h
  | lo, n + 1, 0, d, h => by
    simp only [rngC, List.getElem?_cons_zero, Option.some.injEq] at h
    subst h
    exact ⟨Nat.succ_pos _, by simp⟩
  | lo, n + 1, i + 1, d, h => by
    simp only [rngC, List.getElem?_cons_succ] at h
    obtain ⟨h1, h2⟩ := rngC_get h
    refine ⟨Nat.succ_lt_succ h1, ?_⟩
    rw [h2, show ((i + 1 : Nat) : Int) = (i : Int) + 1 from rfl, Int.add_mul, Int.one_mul]
    congr 1
    omega
theorem it_rangeC {G : Gl} {lo c : Int} {n : Nat} : ItOk G W H (rngC c lo n) (Itc lo c n) := fun W' H' x =>
  ⟨fun i d e => by
    obtain ⟨h1, rfl⟩ := rngC_get e
    exact ⟨h1, fun y H2 ⟨eH, ey⟩ => by subst eH; subst ey; exact ⟨W', Ext.refl _ _, fun _ s => s, rfl⟩⟩, fun i hi => by rw [rngC_len] at hi; exact hi⟩
def iR3 (am : AM) : IM := fun ρ h => (am ρ h).bind fun xs h1 => match xs with
  | [.int i, .int j, .int c] => if c ≠ 0 ∧ c.natAbs < 1073741824 ∧ Builtin.Range.small i j c = true ∧ 0 ≤ Builtin.Range.rangeSize i j c then .ok (rngC c i (Builtin.Range.rangeSize i j c).toNat) h1 else .bad
  | _ => .bad
theorem i_r3 {tg a b c : Expr} {am : AM} {p pos : Pos} (hm : X.mg "range" = none) (ha : PA X [a, b, c] (TrA F wx am)) (hg : L2.Gl X "range" := by rfl) (hs : starEach [a, b, c] X.env = (false, eval a X.env) :: starEach [b, c] X.env := by rfl) (hpl : (backTo pos (starEach [b, c] X.env)).any (·.1) = false := by rfl) :
    PI X tg (.Call (.Name "range" p) [a, b, c] [] pos) (TrI F wx (iR3 am)) :=
  PI.imp (pi_range3 hg hm ha hs hpl) fun σ H R ⟨W, ρ, hp, g, q⟩ => ⟨W, ρ, hp, g, Fin.bind q fun xs hp1 W1 vs H1 x1 s1 r1 q1 => by
    split at q1
    · obtain ⟨v, v2, v3, rfl, rv, rv2, rv3⟩ := reps3 r1
      cases rv; cases rv2; cases rv3
      split at q1
      · rename_i hb
        exact ⟨_, _, _, _, rfl, ⟨hb.1, hb.2.1, hb.2.2.1, (Int.toNat_of_nonneg hb.2.2.2).symm⟩, q1 W1 _ H1 (Ext.refl _ _) s1 it_rangeC⟩
      · exact q1.elim
    · exact q1.elim⟩
def tIsNM (neg : Bool) (a : EM) : TM := fun ρ h => (a ρ h).bind fun x h1 => match x with
  | .non => .ok (!neg) h1
  | _ => .ok neg h1
theorem t_isN {a : Expr} {ea : EM} {j : Nat} {p2 pos : Pos} (ha : PE X a (TrE F wx ea)) : PT X (.Compare a [.Is] [.Constant .none j p2] pos) (TrT F wx (tIsNM false ea)) :=
  PT.imp (pt_cmp (pc_isN ha) rfl) fun σ H Q ⟨W, ρ, hp, g, h⟩ => ⟨W, ρ, hp, g, Fin.bind h fun d hp' W' v H' x s r q => ⟨_, rfl, by
    rw [rep_non r]
    cases d <;> exact Fin.here q s rfl⟩⟩
theorem t_notN {a : Expr} {ea : EM} {j : Nat} {p2 pos : Pos} (ha : PE X a (TrE F wx ea)) : PT X (.Compare a [.IsNot] [.Constant .none j p2] pos) (TrT F wx (tIsNM true ea)) :=
  PT.imp (pt_cmp (pc_notN ha) rfl) fun σ H Q ⟨W, ρ, hp, g, h⟩ => ⟨W, ρ, hp, g, Fin.bind h fun d hp' W' v H' x s r q => ⟨_, rfl, by
    rw [rep_non r]
    cases d <;> exact Fin.here q s rfl⟩⟩
/-- a def, its code's table: q is what its lambdas or generator expressions are called -/
def DefTab (K : PySem.W.Frag) (mg : Str → Option Value) (base : Heap) (G : Gl) (x : Str) (st : Stmt) (q : Str) : Prop :=
  ∃ f fd c P, FunD K x x (defArgs st) (defBody st) (defScope st) [] [] f fd ∧ mg x = some (.ref f) ∧ fd.code = .ref c ∧ LamX.TabB base mg c P ∧ (P, q) ∈ G.tl ∧ ∀ p ∈ G.tl, p.1 = P → p.2 = q
theorem same_code {c c' : Addr} {v : Value} (h : v = .ref c) (h' : v = .ref c') : c' = c := Value.ref.inj (h'.symm.trans h)
/-- the def that catches, from its text -/
theorem told_of {K : PySem.W.Frag} {mg : Str → Option Value} {x a e : Str} {st : Stmt} {CS : Addr} {ret : List Nat} {j : Nat} {p1 p2 p3 p4 p5 p6 p7 p8 : Pos} (D : DefAt K mg x st) (eK : X.K = K) (eg : X.mg = mg)
    (hb : defBody st = [.Try [.Return (some (.Call (.Name a p1) [] [] p2)) p3] [.ExceptHandler (some (.Name e p4)) none [.Return (some (.Constant (.str ⟨ret.toArray⟩) j p5)) p6] p7] [] [] p8])
    (hbind : ∀ (kV doc pm : Value) (an : Option Addr) (cdv ct : Value) (us : List Value), us.length = 1 → bindArgs (PySem.W.fnOf x x (defArgs st) (defBody st) (defScope st) .none kV doc pm an cdv ct) ⟨us, []⟩ = pure (([a] : List Str).zip us))
    (S : FnScope [a] [a] (defScope st)) (hv : Vis (defScope st) a) (hl : (defScope st).names.lookup e = some .globalImplicit) (hm : mg e = some (.ref CS)) (h1 : (e == ("__debug__" : Str)) = false) (h2 : (a == ("__debug__" : Str)) = false) (h3 : (a == ("__classdict__" : Str)) = false) : ToldZ X k x CS ret := by
  obtain ⟨f, fd, F, gm⟩ := D
  have bd : Binds K fd [a] [] := F.bindsN hbind
  have kp := F.kp
  obtain ⟨oc, od, dV, kV, doc, pm, an, cdv, ct, osl, rfl, lk, hcd, _, _⟩ := F.ex
  subst eK
  subst eg
  exact ⟨a, e, f, _, _, dV, kV, doc, pm, cdv, ct, oc, an, od, osl, j, p1, p2, p3, p4, p5, p6, p7, p8, _, hb, gm, kp, lk, hcd, bd, S, hv, hl, hm, h1, h2, h3⟩
end
section
variable {P : Program} {w : World} {K : PySem.W.Frag} {mg : Str → Option Value} {base : Heap} {G : Gl}
def mBad : FM := fun _ _ => .bad
/-- never called -/
theorem fn_never {N ps : List Str} {x : Str} {params : Arguments} {body : List Stmt} {scope : Scope} {f : Addr} {fd : FuncData} {n : Nat} (F : FunD K x x params body scope [] [] f fd) (S : FnScope N ps scope) (gm : mg x = some (.ref f)) (hl : ps.length = n)
    (hbind : ∀ (kV doc pm : Value) (an : Option Addr) (cdv ct : Value) (us : List Value), us.length = ps.length → bindArgs (PySem.W.fnOf x x params body scope .none kV doc pm an cdv ct) ⟨us, []⟩ = pure (ps.zip us)) : FnZ P w K mg base G 0 x n mBad := by
  exact ⟨⟨f, fd, ps, hl, ⟨fun vs H Q E h => by rw [h.len, hl], fun A outer s H args us vs Q E _ _ _ _ ⟨_, _, _, _, _, _, z⟩ => z.elim⟩, gm, F.kp, F.bindsN hbind⟩⟩
theorem FnZ.up {k k' n : Nat} {x : Str} {m : FM} (h : FnZ P w K mg base G k x n m) (hk : k ≤ k') : FnZ P w K mg base G k' x n m := by
  obtain ⟨f, fd, ps, hl, ok, r⟩ := h.ex
  exact ⟨⟨f, fd, ps, hl, ok.mono hk, r⟩⟩
theorem e_call0 {F : Fr} {X : Cx} {wx : WX} {k k' : Nat} {x : Str} {m : FM} {p pos : Pos} (C : FnZ X.prog X.w X.K X.mg X.base F.G k x 0 m) (hr : Room k' X.A) (tk : Takes X wx) (hk : k ≤ k' := by decide) (hg : L2.Gl X x := by rfl)
    (hdb : (x == ("__debug__" : Str)) = false := by decide) : PE X (.Call (.Name x p) [] [] pos) (TrE F wx (eCall 0 m aNil)) := by
  obtain ⟨f, fd, ps, hl, ok, hm, kp, bd⟩ := C.ex
  refine ⟨fun pins s σ H Q I h => ?_⟩
  have h1 : tCallS (spOf F.G m 0) (WE wx) (TrA F wx aNil) σ H Q := call_imp h
  refine wpAny_Call_Name_kw (ld_glob I hg hm ?_ hdb)
  refine PySem.W.callWith_K0 I.kIn kp ?_
  obtain ⟨W, ρ, hp, g, h2⟩ := h1
  exact run_fnS (us := []) ok (hr.mono hk) bd (passAt tk σ) I .nil (h2 W [] H (Ext.refl _ _) g.st rfl)
/-! ### lambdas of a text -/
def kidE (i : Nat) : Expr → Expr
  | .List es _ => es.getD i (.Constant .none 0 ⟨0, 0, 0, 0⟩)
  | .Tuple es _ _ => es.getD i (.Constant .none 0 ⟨0, 0, 0, 0⟩)
  | .BinOp a _ b _ => if i = 0 then a else b
  | e => e
def asgV : Stmt → Expr
  | .Assign _ v _ => v
  | _ => .Constant .none 0 ⟨0, 0, 0, 0⟩
def lamP : Expr → Option (Arguments × Expr × Scope)
  | .Lambda p b s _ => some (p, b, s)
  | _ => none
def lamOf (q : Str) (e : Expr) : Option (Arguments × Expr × Scope × Str) := (lamP e).map fun t => (t.1, t.2.1, t.2.2, q)
end
end Z

/-! Z24: enumerate over a tuple, over a text -/
namespace Z
open PySem PySem.Spec PyProof.Rows L2
open AutoSeq1 (wpAny_loadPart')

abbrev enObj (a : Addr) : Obj := { cls := .type "enumerate", data := .fields #[.none, .bool false, .ref a, rawInt 0, .none, .none] }
theorem en_newT (t : Addr) (items : Array Value) (n : Nat) (dct : Option Addr) (sl : Array (Option Value)) :
    Meets (Builtin.«enumerate.__new__» ⟨[.type "enumerate", .ref t], []⟩) (fun _ R s => s.heap.get? t = some { cls := .type "tuple", dict := dct, data := .seq items n, slots := sl } ∧
      R (.ok (.ret (.ref (s.heap.push { cls := .type "tuple_iterator", data := .fields #[.ref t, .int 0 0] }).objs.size)))
        { s with heap := (s.heap.push { cls := .type "tuple_iterator", data := .fields #[.ref t, .int 0 0] }).push (enObj s.heap.objs.size) }) :=
  .of_wp fun prog w A R s h => by
    obtain ⟨hp, g, d, tk, os⟩ := s; obtain ⟨hl, h⟩ := h
    have hsub := sub_enumerate
    have hT : Heap.IsTuple (Shared.heap ⟨hp, g, d, tk, os⟩) t items := ⟨_, hl, rfl, n, rfl⟩
    wp_walk using wpAny_loadPart' hl
    refine wpAny_stack_any fun st => wpAny_pure ?_
    split
    · rename_i c _ _ _ _ _
      cases (c == Value.type "enumerate")
      · wp_walk using wpAny_loadPart' hl, wpAny_pyIter_tuple hT
        exact ⟨_, rfl, h⟩
      · wp_walk using wpAny_loadPart' hl, wpAny_pyIter_tuple hT
        exact ⟨_, rfl, h⟩
    · wp_walk using wpAny_loadPart' hl, wpAny_pyIter_tuple hT
      exact ⟨_, rfl, h⟩
section
variable {prog : Program} {w : World} {A : Around} {E : Value → Shared → Prop} {s : Shared}
theorem call_enumT {t : Addr} {items : Array Value} {Q : Value → Shared → Prop} (hT : s.heap.IsTuple t items)
    (h : ∀ h', IsEnum h' (s.heap.objs.size + 1) s.heap.objs.size 0 .none → h'.IsTupleIter s.heap.objs.size t 0 → h'.objs.size = s.heap.objs.size + 2 →
      (∀ b o, s.heap.get? b = some o → h'.get? b = some o) → Q (.ref (s.heap.objs.size + 1)) { s with heap := h' }) : wpAny (model prog w) A (call (.type "enumerate") [.ref t]) Q E s := by
  obtain ⟨⟨c, dct, dt, sl⟩, hl, hc, n, hd⟩ := hT
  replace hc : c = .type "tuple" := hc
  replace hd : dt = .seq items n := hd
  subst hc hd
  refine callType_new PySem.F.called_enumerate (by decide) (PySem.F.typeCall_enumerate_1 _) (PySem.F.newCall_enumerate_1 _) (fun obj => PySem.F.args_object_init_2 obj _) PySem.F.entry_enumerate_new (en_newT t items n dct sl) ⟨hl, ?_⟩
  have hz : (s.heap.push { cls := .type "tuple_iterator", data := .fields #[.ref t, .int 0 0] }).objs.size = s.heap.objs.size + 1 := Heap.size_push ..
  show _ ∧ _
  rw [hz]
  have he : IsEnum ((s.heap.push { cls := .type "tuple_iterator", data := .fields #[.ref t, .int 0 0] }).push (enObj s.heap.objs.size)) (s.heap.objs.size + 1) s.heap.objs.size 0 .none := by
    have q := Heap.get?_push_size (s.heap.push { cls := .type "tuple_iterator", data := .fields #[.ref t, .int 0 0] }) (o := enObj s.heap.objs.size) rfl
    rw [hz] at q; exact q
  exact ⟨⟨_, he, rfl⟩, h _ he ⟨_, Heap.get?_push_of_some _ (Heap.get?_push_size _ rfl), rfl, rfl⟩ (by rw [Heap.size_push, hz]) fun b o x => Heap.get?_push_of_some _ (Heap.get?_push_of_some _ x)⟩
end
/-- each item of the tuple at a, with its place, in a new pair -/
def IteT (K : PySem.W.Frag) (a : Addr) : It :=
  ⟨fun i H => ∃ (xs : List V) (x : V), SqT K H a xs ∧ xs[i]? = some x, fun i H v H' => ∃ T x, v = .ref T ∧ H T = none ∧ H' = upd H T (.tup [.int (i : Nat), x]) ∧ ∀ xs, SqT K H a xs → xs[i]? = some x, fun i H => ∃ xs : List V, SqT K H a xs ∧ xs.length ≤ i⟩
/-- a new pair was handed out -/
theorem en_pair {X : Cx} {pins : List (Addr × Obj)} {σ : L2.St} {H : Hp} {s : Shared} {e it : Addr} {i : Nat} {x : V} {u : Value} {tk : Nat} {h' h'' : Heap} (I : Inv X pins σ H s) (hf : ∀ b ∈ [e, it], FpOk X pins H b) (hel : e < s.heap.objs.size) (ru : RelV x u)
    (hT : h'.get? s.heap.objs.size = some { cls := .type "tuple", data := .seq #[.int i tk, u] }) (sb : Heap.SameBut e h' h'') (hk : ∀ b o, b ≠ e → b ≠ it → s.heap.get? b = some o → h'.get? b = some o) :
    Inv X pins σ (upd H s.heap.objs.size (.tup [.int (i : Nat), x])) { s with heap := h'', toks := tk + 1 } := by
  have hT2 : h''.get? s.heap.objs.size = some { cls := .type "tuple", data := .seq #[.int i tk, u] } := (sb.2 _ (Nat.ne_of_gt hel)).trans hT
  have new : ObjOk X.prog X.w (upd H s.heap.objs.size (.tup [.int (i : Nat), x])) h'' s.heap.objs.size (.tup [.int (i : Nat), x]) :=
    ⟨by show 2 ≤ sizeLine; decide, [.int i tk, u], .cons ⟨_, rfl⟩ (.cons ru .nil), ⟨_, hT2, rfl, _, rfl⟩⟩
  exact I.turnedNew (ch := [e, it]) (fun b ob hb q => (sb.2 b (fun z => hb (by simp [z]))).trans (hk b ob (fun z => hb (by simp [z])) (fun z => hb (by simp [z])) q)) hf (Nat.le_refl _) new
theorem turn_enumT {P : Program} {w : World} {K : PySem.W.Frag} {elts : List Expr} {kk : Nat} {tpos : Pos} (a e it : Addr) (hae : a ≠ e) (hai : a ≠ it) :
    Turn P w K (.Tuple elts kk tpos) (IteT K a) [e, it] e (fun i h => (∃ old, IsEnum h e it ((i : Nat) : Int) old) ∧ h.IsTupleIter it a i ∧ e ≠ it) where
  mem := by simp
  obj := fun i h st b hb => by
    obtain ⟨⟨old, he⟩, ⟨o, ho, hc, hd⟩, _⟩ := st
    have e' : b = e ∨ b = it := by simpa using hb
    rcases e' with z | z
    · rw [z]; exact ⟨_, he, fun v q => nomatch q⟩
    · rw [z]; exact ⟨o, ho, fun v q => by rw [hd] at q; cases q⟩
  keep := fun i h h' st k => let ⟨⟨old, he⟩, hi, hne⟩ := st; ⟨⟨old, k e (by simp) _ he⟩, hi.at fun o q => k it (by simp) o q, hne⟩
  item := by
    intro X hP hw hK hc i pins s σ H E I hf st hg
    subst hP hw hK
    obtain ⟨⟨old, he⟩, hit, hne⟩ := st
    obtain ⟨xs, x, hq, hx⟩ := hg
    obtain ⟨its, rv, p, hz⟩ := I.tuple hq
    obtain ⟨u, hu, ru⟩ := rv.get hx
    have hel : e < s.heap.objs.size := Heap.lt_size he
    have hil : it < s.heap.objs.size := by obtain ⟨_, q, _⟩ := hit; exact Heap.lt_size q
    have hlt : i < its.toArray.size := by
      have := (List.getElem?_eq_some_iff.mp hu).1
      simpa using this
    refine wpAny_pyNext_enum_itemD (Draws.tuple (A := X.A.in1) (show X.A.in1.handled = none from I.ok.hd hc) it a hai its.toArray) he ⟨hit, p⟩ hlt hne (by simp [hne, Ne.symm hae]) fun y h' tk hy ho hit' hT hsz hk => ?_
    have ey : y = u := by
      have : its.toArray[i]? = some y := hy
      rw [show its.toArray[i]? = its[i]? by simp, hu] at this
      exact (Option.some.inj this).symm
    subst ey
    refine ⟨_, rfl, wpAny_letOwnedTupleGo_enum (s := { s with heap := h', toks := tk + 1 }) ho fun h'' he' sb => ?_⟩
    refine ⟨.ref s.heap.objs.size, _, en_pair (s := s) I hf hel ru hT sb hk, rfl, ⟨_, x, rfl, I.hok.fresh (Nat.le_refl _), rfl, fun ys hy => by rw [I.tuple_inj hy hq]; exact hx⟩, ⟨⟨y, ?_⟩, hit'.1.at fun o q => (sb.2 it (Ne.symm hne)).trans q, hne⟩, fun b hb => ?_⟩
    · have e1 : ((i + 1 : Nat) : Int) = (i : Int) + 1 := by omega
      rw [e1]; exact he'
    · have hb' : b < s.heap.objs.size := by
        have e' : b = e ∨ b = it := by simpa using hb
        rcases e' with z | z
        · rw [z]; exact hel
        · rw [z]; exact hil
      rw [upd_ne (Nat.ne_of_lt hb')]
      exact (hf b hb).1
  done := by
    intro X hP hw hK hc i pins s σ H E I hf st hg
    subst hP hw hK
    obtain ⟨⟨old, he⟩, hit, hne⟩ := st
    obtain ⟨xs, hq, hx⟩ := hg
    obtain ⟨its, rv, p, hz⟩ := I.tuple hq
    obtain ⟨f0, f1, f2, f3, f4, f5⟩ := hf it (by simp)
    have hl := rv.length
    have hTy : s.TypeIs (.ref e) "enumerate" := ⟨_, he, rfl⟩
    unfold pyNext
    refine wpAny_bind (wpAny_attempt (wpAny_callSpecial?_slot (name := Str.ofString "__next__") hTy PySem.F.slot_enumerate_next (wpAny_call_entry PySem.F.slot_enumerate_next hTy PySem.F.entry_enumerate_next ?_ (PySem.F.args_enumerate_next_1 _))))
    show wpAny _ _ (field (.ref e) 2 >>= _) _ _ _
    refine wpAny_bind (wpAny_field he rfl (x := .ref it) rfl ?_)
    refine wpAny_bind (wpAny_nextOf_tuple_end (show X.A.in1.handled = none from I.ok.hd hc) hit p (by simp; omega) fun h' x eb hx' => ?_)
    obtain ⟨o, ho, hcl⟩ := hx'
    refine wpAny_bind (wpAny_isInstance (T := "StopIteration") (b := true) ⟨o, ho, hcl⟩ isSubtype_stop ?_)
    exact wpAny_pure ⟨rfl, I.turned (t' := s.toks) (fun b o hb q => eb b o hb q) f0 f1 f3 f4 f5⟩
  self := fun A i s Q E st h => let ⟨⟨_, he⟩, _⟩ := st; wpAny_pyIter_enum he h
def iEnT (K : PySem.W.Frag) (ta : TA) : TI := fun σ H R => ta σ H fun vs H1 => ∃ a xs, vs = [.ref a] ∧ SqT K H1 a xs ∧ R (IteT K a) H1
theorem pi_enumT {X : Cx} {e : Expr} {ta : TA} {p pos tpos : Pos} {elts : List Expr} {kk : Nat} (hg : L2.Gl X "enumerate") (hm : X.mg "enumerate" = none) (ha : PA X [e] ta) (hs : starEach [e] X.env = [(false, eval e X.env)] := by rfl) :
    PI X (.Tuple elts kk tpos) (.Call (.Name "enumerate" p) [e] [] pos) (iEnT X.K ta) := by
  refine ⟨fun pins s σ H R I h => ?_⟩
  refine Call_ (ld_blt I hg hm boot_enumerate (PyProof.Rows.callWith_type1 (thn (ha.run pos pins s σ H _ I h) fun us s1 ⟨vs, H1, I1, r1, q1⟩ => ?_) hs rfl))
  obtain ⟨a, xs, rfl, hq, q⟩ := q1
  obtain ⟨u, rfl, ru⟩ := r1.one
  obtain rfl : u = Value.ref a := ru
  obtain ⟨its, rv, p', hz⟩ := I1.tuple hq
  have hal : a < s1.heap.objs.size := by obtain ⟨o, q, _⟩ := p'; exact Heap.lt_size q
  refine call_enumT p' fun h' he hit hsz hk => wpAny_pyIter_enum he ?_
  have I2 : Inv X pins σ H1 { s1 with heap := h' } := I1.kept (t' := s1.toks) hk
  refine ⟨s1.heap.objs.size + 1, [s1.heap.objs.size + 1, s1.heap.objs.size], _, _, H1, rfl, I2, turn_enumT a (s1.heap.objs.size + 1) s1.heap.objs.size (Nat.ne_of_lt (Nat.lt_succ_of_lt hal)) (Nat.ne_of_lt hal), ⟨⟨.none, he⟩, hit, Nat.succ_ne_self _⟩, fun b hb => ?_, q⟩
  have e' : b = s1.heap.objs.size + 1 ∨ b = s1.heap.objs.size := by simpa using hb
  have hle : s1.heap.objs.size ≤ b := by
    rcases e' with z | z
    · rw [z]; exact Nat.le_add_right _ _
    · rw [z]; exact Nat.le_refl _
  exact I1.fpOk hle (I1.hok.fresh hle)
section
variable {F : Fr} {X : Cx} {wx : WX} {G : Gl} {W : Wd} {H : Hp}
theorem it_enumT {a : Addr} {ds : List D} {vs : List V} (hs : ∀ W' H', Lk W H W' H' → SqT G.K H' a vs) (r : Reps G W H ds vs) : ItOk G W H (enumL 0 ds) (IteT G.K a) := fun W' H' x =>
  ⟨fun i d e => by
    obtain ⟨d', e1, rfl⟩ := enumL_get e
    obtain ⟨v, e2, rv⟩ := r.get e1
    refine ⟨⟨vs, v, hs W' H' x, e2⟩, fun y H2 ⟨T, z, ey, hT, eH, q⟩ => ?_⟩
    have := q vs (hs W' H' x)
    rw [e2] at this; cases this
    subst ey; subst eH
    have x2 := ext_fz' (W := W') (o := .tup [.int (i : Nat), v]) hT
    refine ⟨W'.fzA T, x2, fun hp s => st_fz s hT, T, _, rfl, fz_tup, _, _, rfl, ?_, _, _, rfl, (rv.ext x).ext x2.toLk, rfl⟩
    show V.int _ = V.int _
    rw [Nat.zero_add], fun i hi => by rw [enumL_len] at hi; exact ⟨vs, hs W' H' x, by rw [← r.length]; exact hi⟩⟩
def enD (xs : List D) (h1 : Hc) : R (List D) := match xs with
  | [.lst ds] => .ok (enumL 0 ds) h1
  | [.scr ds] => .ok (enumL 0 ds) h1
  | [.tup ds] => .ok (enumL 0 ds) h1
  | _ => .bad
def iEnA (am : AM) : IM := fun ρ h => (am ρ h).bind enD
theorem i_enA {a : Expr} {am : AM} {p pos tpos : Pos} {elts : List Expr} {kk : Nat} (hK : F.G.K = X.K) (hm : X.mg "enumerate" = none) (ha : PA X [a] (TrA F wx am)) (hg : L2.Gl X "enumerate" := by rfl) (hs : starEach [a] X.env = [(false, eval a X.env)] := by rfl) :
    PI X (.Tuple elts kk tpos) (.Call (.Name "enumerate" p) [a] [] pos) (TrI F wx (iEnA am)) := by
  have h1 := pi_enum (elts := elts) (kk := kk) (tpos := tpos) (p := p) (pos := pos) hg hm ha hs
  have h2 := pi_enumT (elts := elts) (kk := kk) (tpos := tpos) (p := p) (pos := pos) hg hm ha hs
  refine PI.imp (PI.or h1 h2) fun σ H R ⟨W, ρ, hp, g, q⟩ => ?_
  unfold iEnA at q
  cases z : am ρ hp with
  | bad => rw [z] at q; exact q.elim
  | ex c h1 =>
    rw [z] at q
    refine .inl ⟨W, ρ, hp, g, ?_⟩
    rw [z]
    exact q
  | ok xs h1 =>
    rw [z] at q
    have q : Fin F wx σ (ItOk F.G) W H R (enD xs h1) := q
    unfold enD at q
    split at q
    · refine .inl ⟨W, ρ, hp, g, ?_⟩
      rw [z]
      intro W2 vs H2 x2 s2 r2
      obtain ⟨v, rfl, a, ws, rfl, t, rs⟩ := reps1 r2
      refine ⟨a, ws, rfl, SqL.of t.2, q W2 _ H2 x2 s2 ?_⟩
      rw [← hK]
      exact it_enum (fun W2 H2 l => SqL.of (t.ext l).2) rs
    · refine .inl ⟨W, ρ, hp, g, ?_⟩
      rw [z]
      intro W2 vs H2 x2 s2 r2
      obtain ⟨v, rfl, a, ws, rfl, t, rs⟩ := reps1 r2
      refine ⟨a, ws, rfl, hK ▸ SqL.fz (K := F.G.K) t (Lk.refl _ _), q W2 _ H2 x2 s2 ?_⟩
      rw [← hK]
      exact it_enum (fun W2 H2 l => SqL.fz (K := F.G.K) t l) rs
    · refine .inr ⟨W, ρ, hp, g, ?_⟩
      rw [z]
      intro W2 vs H2 x2 s2 r2
      obtain ⟨v, rfl, a, ws, rfl, t, rs⟩ := reps1 r2
      refine ⟨a, ws, rfl, hK ▸ t.sq, q W2 _ H2 x2 s2 ?_⟩
      rw [← hK]
      exact it_enumT (fun W2 H2 l => (t.ext l).sq) rs
    · exact q.elim
/-! ### sum of a list, of a tuple -/
def rSumA (K : PySem.W.Frag) : List V → Hp → VK → Prop := fun vs H Q => ∃ (a : Addr) (ns : List Int), vs = [V.ref a] ∧ (SqL K H a (ns.map V.int) ∨ SqT K H a (ns.map V.int)) ∧ Q (.int ns.sum) H
theorem cr_sumA (hc : X.calm = true) : CallR X (.builtin "sum") (rSumA X.K) := by
  intro pins s σ H vs us Q I r h
  obtain ⟨a, ns, rfl, hs, q⟩ := h
  rcases hs with hs | hs
  · exact cr_sum hc pins s σ H _ us Q I r ⟨a, ns, rfl, hs, q⟩
  · obtain ⟨its, rv, ht, _⟩ := I.tuple hs
    rw [Vals.ref1 r]
    have hi := rv.ints
    obtain ⟨xs, hx⟩ := hi.allInts.items
    have hn : numsOf its.toArray.toList = ns := by rw [show its.toArray.toList = its from rfl, hi.numsOf]
    rw [hx] at ht hn
    rw [nums_intItems] at hn
    refine PySem.W.ktm_sumG (I.ok.hd hc) ht fun h' tk t' hk => ⟨.int ns.sum, H, I.kept hk, ⟨t', ?_⟩, q⟩
    rw [preSum_eq, List.take_of_length_le (by simp), hn]
def bSumA : BM := fun xs h => match xs with
  | [x] => (match unbox h x with
    | .lst ds => (match ints? ds with | some ns => .ok (.int ns.sum) h | none => .bad)
    | .tup ds => (match ints? ds with | some ns => .ok (.int ns.sum) h | none => .bad)
    | _ => .bad)
  | _ => .bad
theorem s_sumA (hK : F.G.K = X.K) : BiS F bSumA (rSumA X.K) := by
  intro wx σ W H hp xs vs Q s r h
  unfold bSumA at h
  split at h
  · obtain ⟨v, rfl, r1⟩ := repsB1 r
    have ux := unbox_rep s r1
    split at h
    · rename_i ds e1
      rw [e1] at ux
      obtain ⟨p, vs, rfl, tp, rp⟩ := ux
      split at h
      · rename_i ns en
        have ev := ints_rep en rp
        subst ev
        exact ⟨p, ns, rfl, .inl (SqL.of tp), Fin.here h s rfl⟩
      · exact h.elim
    · rename_i ds e1
      rw [e1] at ux
      obtain ⟨p, vs, rfl, tp, rp⟩ := ux
      split at h
      · rename_i ns en
        have ev := ints_rep en rp
        subst ev
        exact ⟨p, ns, rfl, .inr (hK ▸ tp.sq), Fin.here h s rfl⟩
      · exact h.elim
    · exact h.elim
  · exact h.elim
end
end Z

/-! Zh: from the head's facts to what the walk asks -/
namespace Z
open PySem PySem.Spec PyProof.Rows L2

def dd (x : Str) (st : Stmt) : He.DefD := ⟨(x, none), x, x, defArgs st, defBody st, defScope st, [], []⟩
section
variable {fa : List He.Fa} {fn : List He.DefD} {ts : List He.Tab} {tf : List He.Defn} {ex : PySem.W.Frag → Bool} {w : World} {h base : Heap} {K : PySem.W.Frag} {mg : Str → Option Value} {G : Gl}
theorem fact_at (c : He.SaysX fa fn ts tf ex w h K) (i : Nat) {f : He.Fa} (e : fa[i]? = some f) : f.ok K = true := c.t.d.facts (List.mem_of_getElem? e)
theorem defAt (X : K.In h) (N : h.Ns mainGlobals mg) (c : He.SaysX fa fn ts tf ex w h K) (i j : Nat) {x : Str} {st : Stmt} (e : fn[i]? = some (dd x st)) (e2 : fa[j]? = some (.glo x)) : DefAt K mg x st := by
  obtain ⟨fd, F⟩ := c.t.d.defs (List.mem_of_getElem? e)
  exact ⟨_, fd, F, He.glo_ok X N (fact_at c j e2)⟩
/-- the tables' places -/
def uniq (l : List (Addr × Str)) : Bool := l.all fun p => l.all fun q => !decide (p.1 = q.1) || decide (p.2 = q.2)
theorem uniq_at {l : List (Addr × Str)} (h : uniq l = true) {p q : Addr × Str} (hp : p ∈ l) (hq : q ∈ l) (e : p.1 = q.1) : p.2 = q.2 := by
  have h1 := List.all_eq_true.mp (List.all_eq_true.mp h p hp) q hq
  rw [decide_eq_true e, Bool.not_true, Bool.false_or] at h1
  exact of_decide_eq_true h1
theorem defTab (X : K.In h) (N : h.Ns mainGlobals mg) (c : He.SaysX fa fn ts tf ex w h K) (B : ∀ p ∈ tf, LamX.TabB base mg (He.cT K p).1 (He.cT K p).2) (hu : uniq G.tl = true) (i j l m : Nat) {x q : Str} {st : Stmt} (e : fn[i]? = some (dd x st)) (e2 : fa[j]? = some (.glo x))
    (e3 : tf[l]? = some (x, none)) (e4 : G.tl[m]? = some ((He.cT K (x, none)).2, q)) : DefTab K mg base G x st q := by
  obtain ⟨fd, F⟩ := c.t.d.defs (List.mem_of_getElem? e)
  have hm := List.mem_of_getElem? e4
  have hc : fd.code = .ref (He.codeOf K (x, none)) := by
    obtain ⟨oc, od, dV, kV, doc, pm, an, cdv, ct, osl, rfl, lk, hcd, _, _⟩ := F.ex
    obtain ⟨a, rfl⟩ := He.codeIn_ref hcd
    exact congrArg Value.ref (He.codeOf_eq (p := (x, none)) lk rfl).symm
  exact ⟨_, fd, _, _, F, He.glo_ok X N (fact_at c j e2), hc, B _ (List.mem_of_getElem? e3), hm, fun p hp z => uniq_at hu hp hm z⟩
theorem freeAt (X : K.In h) (N : h.Ns mainGlobals mg) (c : He.SaysX fa fn ts tf ex w h K) (j : Nat) {x : Str} (e : fa[j]? = some (.free x)) : mg x = none := He.free_ok X N (fact_at c j e)
theorem intAt (X : K.In h) (N : h.Ns mainGlobals mg) (c : He.SaysX fa fn ts tf ex w h K) (j : Nat) {x : Str} {i : Int} (e : fa[j]? = some (.int x i)) : ∃ u, mg x = some u ∧ RelV (.int i) u := by
  obtain ⟨t, ht⟩ := He.int_ok X N (fact_at c j e)
  exact ⟨_, ht, t, rfl⟩
theorem excAt (X : K.In h) (N : h.Ns mainGlobals mg) (c : He.SaysX fa fn ts tf ex w h K) (j l : Nat) {x : Str} {n : Nat} (e : fa[j]? = some (.glo x)) (e2 : fa[l]? = some (.exc x)) (hn : G.ca n = He.ga K x) : ExZ K mg G n x := by
  obtain ⟨a, b, d, t⟩ := He.exc_ok (fact_at c l e2)
  exact ⟨by rw [hn]; exact He.glo_ok X N (fact_at c j e), by rw [hn]; exact a, by rw [hn]; exact b, by rw [hn]; exact d, by rw [hn]; exact t⟩
/-! ### the end -/
theorem st_first {H : Hp} {a : Addr} {vs : List V} (hT : ∀ p ∈ G.tl, H p.1 = some (.tbl #[])) (hS : SqL G.K H a vs) : ∃ W, St0 G W H [] ∧ ScrAt G W H a vs := by
  have tabs : LamX.Tabs G.tl H := fun p hp => ⟨#[], hT p hp, by simp [TriplesOk], fun pos cv z => by simp [codeAmong] at z⟩
  rcases hS with hR | hK
  · have there : H a ≠ none := by
      rcases hR with e | ⟨o, e⟩
      · rw [e]; simp
      · rw [e]; simp
    refine ⟨⟨fun _ => none, fun b => b = a, fun _ => none⟩, ⟨?_, ?_, ?_, ?_, ?_, tabs, fun _ _ _ => trivial⟩, .inl ⟨rfl, hR⟩⟩
    · intro n c z; simp at z
    · intro n b z; cases z
    · intro n k b z; cases z
    · intro n b z; cases z
    · intro b z
      have e : b = a := z
      rw [e]
      exact there
  · refine ⟨⟨fun _ => none, fun b => False, fun _ => none⟩, ⟨?_, ?_, ?_, ?_, ?_, tabs, fun _ _ _ => trivial⟩, .inr hK⟩
    · intro n c z; simp at z
    · intro n b z; cases z
    · intro n k b z; cases z
    · intro n b z; cases z
    · intro b z; exact z.elim
theorem reps_ints {W : Wd} {H : Hp} : ∀ (ns : List Int), Reps G W H (ns.map D.int) (ns.map V.int)
  | [] => rfl
  | n :: ns => ⟨.int n, ns.map V.int, rfl, rfl, reps_ints ns⟩
theorem fd_same {x q : Str} {pa pa2 : Arguments} {b b2 : List Stmt} {sc sc2 : Scope} {f : Addr} {fd fd2 : FuncData} (F : FunD K x q pa b sc [] [] f fd) (F2 : FunD K x q pa2 b2 sc2 [] [] f fd2) : fd2 = fd := by
  obtain ⟨_, _, _, _, _, _, _, _, _, _, _, l1, _⟩ := F.ex
  obtain ⟨_, _, _, _, _, _, _, _, _, _, _, l2, _⟩ := F2.ex
  rw [l1] at l2
  cases l2
  rfl
/-- the law's own def, walked -/
def FnL (P : Program) (w : World) (K : PySem.W.Frag) (mg : Str → Option Value) (base : Heap) (G : Gl) (k : Nat) (x p : Str) (st : Stmt) (m : FM) : Prop :=
  ∃ f fd, FunD K x x (defArgs st) (defBody st) (defScope st) [] [] f fd ∧ mg x = some (.ref f) ∧ FnOk P w K mg base (L2.CX P w) k f fd [p] (spOf G m 1)
/-- the law's promise, from the plain law -/
theorem law_at {l : PySem.W.OpenLaw} {k n : Nat} {m : FM} {x p : Str} {st : Stmt} {fa' : Addr} (X : K.In h) (c : He.SaysX fa fn ts tf ex w h K) (i : Nat) (e : fn[i]? = some (dd x st)) (tl : ∀ t ∈ G.tl, ∃ p ∈ tf, t.1 = (He.cT K p).2) (hK : G.K = K)
    (hfa : mg x = some (.ref fa')) (hbind : ∀ (kV doc pm : Value) (an : Option Addr) (cdv ct : Value) (us : List Value), us.length = 1 → bindArgs (PySem.W.fnOf x x (defArgs st) (defBody st) (defScope st) .none kV doc pm an cdv ct) ⟨us, []⟩ = pure (([p] : List Str).zip us))
    (Zl : ∀ base : Heap, K.In base → base.Ns mainGlobals mg → (∀ p ∈ tf, LamX.TabB base mg (He.cT K p).1 (He.cT K p).2) → FnL l.prog w K mg base G k x p st m) (hg : mg x = some (.ref (He.fAd K (x, none))))
    (hm : ∀ ns : List Int, ns.length ≤ n → (∀ z ∈ ns, Builtin.Int.intBits z ≤ 1048576) → ∃ h', m [.scr (ns.map D.int)] [] = .ok (.bl true) h') : LamX.LawAtS l w K (L2.CX l.prog w) k n p mg fa' h := by
  obtain ⟨fd, F⟩ := c.t.d.defs (List.mem_of_getElem? e)
  have ef : fa' = He.fAd K (x, none) := by
    rw [hg] at hfa
    cases hfa
    rfl
  have b := FunD.bindsA (ps := [p]) F hbind
  refine ⟨fd, tf.map (He.cT K), spOf G m 1, fun q hq => ?_, fun q hq => ?_, fun q hq => ?_, fun s v => b s [v] rfl, fun H a ns hl hz hT hS => ?_, fun base kb nb tb => ?_⟩
  · obtain ⟨d, hd, rfl⟩ := List.mem_map.mp hq
    exact c.empty d hd
  · obtain ⟨d, hd, rfl⟩ := List.mem_map.mp hq
    exact c.out d hd
  · obtain ⟨d, hd, rfl⟩ := List.mem_map.mp hq
    exact PySem.W.codeHd_of_K X (c.hd d hd)
  · obtain ⟨h', hm⟩ := hm ns hl hz
    obtain ⟨W, st0, scr⟩ := st_first (G := G) (a := a) (vs := ns.map V.int) (fun t ht => by
      obtain ⟨d, hd, e1⟩ := tl t ht
      rw [e1]
      exact hT _ (List.mem_map.mpr ⟨d, hd, rfl⟩)) (hK ▸ hS)
    refine ⟨W, [], [.scr (ns.map D.int)], st0, ⟨_, [], rfl, ⟨a, _, rfl, scr, reps_ints ns⟩, rfl⟩, rfl, ?_⟩
    rw [hm]
    exact fun W' v H' _ _ r => r
  · obtain ⟨f, fd2, F2, gm, ok⟩ := Zl base kb nb fun q hq => tb _ (List.mem_map.mpr ⟨q, hq, rfl⟩)
    rw [hfa] at gm
    cases gm
    rw [ef] at F2 ⊢
    rw [fd_same F F2] at ok
    rw [← ef]
    exact ok
end
end Z

/-! Z25: slots that no one reads any more; x[::-1]; count -/
namespace Z
open PySem PySem.Spec PyProof.Rows L2
section
variable {F : Fr} {X : Cx} {wx : WX} {σ : L2.St} {G : Gl} {W W' : Wd} {H H' : Hp} {hp hp' : Hc} {ρ : Rho}
/-- a slot is forgotten -/
theorem Gd.drop1 (g : Gd F W ρ hp σ H) (i : Nat) : Gd F W (ρ.set i .u) hp σ H where
  x0 := g.x0
  st := g.st
  env := {
    len := by rw [List.length_set]; exact g.env.len
    at_ := fun j s ov h1 h2 => by
      rcases set_some h1 with ⟨_, e, _⟩ | ⟨_, h1⟩
      · rw [e]; trivial
      · exact g.env.at_ j s ov h1 h2
    ap := fun j k a h1 h2 => g.env.ap j k a ⟨by
      obtain ⟨⟨d, e⟩, _⟩ := h1
      rcases set_some e with ⟨_, z, _⟩ | ⟨_, e⟩
      · cases z
      · exact ⟨d, e⟩, h1.2⟩ ⟨by
      obtain ⟨⟨d, e⟩, _⟩ := h2
      rcases set_some e with ⟨_, z, _⟩ | ⟨_, e⟩
      · cases z
      · exact ⟨d, e⟩, h2.2⟩
    nw := fun j a h1 => g.env.nw j a ⟨by
      obtain ⟨⟨d, e⟩, _⟩ := h1
      rcases set_some e with ⟨_, z, _⟩ | ⟨_, e⟩
      · cases z
      · exact ⟨d, e⟩, h1.2⟩ }
theorem Gd.drop (g : Gd F W ρ hp σ H) : ∀ vs : List Nat, Gd F W (wipeR ρ vs) hp σ H
  | [] => g
  | v :: vs => (g.drop vs).drop1 v
/-- the slots of an end are forgotten -/
def O.kill (vs : List Nat) : O → O
  | .nx ρ h => .nx (wipeR ρ vs) h
  | .bk ρ h => .bk (wipeR ρ vs) h
  | .ct ρ h => .ct (wipeR ρ vs) h
  | o => o
def sKl (vs : List Nat) (s : SM) : SM := fun ρ h => (s ρ h).kill vs
theorem kl_imp {vs : List Nat} {sm : SM} {D : Ends} (h : TrS F wx (sKl vs sm) D σ H) : TrS F wx sm D σ H := by
  obtain ⟨W, ρ, hp, g, h⟩ := h
  refine ⟨W, ρ, hp, g, ?_⟩
  have h : FinS F wx W H D ((sm ρ hp).kill vs) := h
  revert h
  cases sm ρ hp with
  | nx ρ' hp' => exact fun h W' σ' H' g' l => h W' σ' H' (g'.drop vs) l
  | bk ρ' hp' => exact fun h W' σ' H' g' l => h W' σ' H' (g'.drop vs) l
  | ct ρ' hp' => exact fun h W' σ' H' g' l => h W' σ' H' (g'.drop vs) l
  | rt d hp' => exact fun h => h
  | ex c ρ' hp' => exact fun h => h
  | bad => exact fun h => h
theorem s_kl {st : Stmt} {vs : List Nat} {sm : SM} (h : PS X st (TrS F wx sm)) : PS X st (TrS F wx (sKl vs sm)) := PS.imp h fun _ _ _ => kl_imp
theorem ss_kl {st : List Stmt} {vs : List Nat} {sm : SM} (h : PSs X st (TrS F wx sm)) : PSs X st (TrS F wx (sKl vs sm)) := PSs.imp h fun _ _ _ => kl_imp
/-- slots are forgotten ahead -/
def sK0 (vs : List Nat) (s : SM) : SM := fun ρ h => s (wipeR ρ vs) h
theorem k0_imp {vs : List Nat} {sm : SM} {D : Ends} (h : TrS F wx (sK0 vs sm) D σ H) : TrS F wx sm D σ H := by
  obtain ⟨W, ρ, hp, g, h⟩ := h
  exact ⟨W, wipeR ρ vs, hp, g.drop vs, h⟩
theorem s_k0 {st : Stmt} {vs : List Nat} {sm : SM} (h : PS X st (TrS F wx sm)) : PS X st (TrS F wx (sK0 vs sm)) := PS.imp h fun _ _ _ => k0_imp

/-! ### x[::-1] -/
theorem krv_range : ∀ n : Nat, Builtin.Str.strSliceIndices none none (-1) n = (List.range n).reverse := fun n => by
  show sliceRange ((n : Int) - 1) (-1) (-1) = _
  rw [PySem.W.krv_sliceRange, PySem.W.krv_range]
def tRevA (K : PySem.W.Frag) (te : TE) : TE := fun σ H Q => te σ H fun x H1 => (∃ a xs, x = .ref a ∧ SqL K H1 a xs ∧ ∀ p, H1 p = none → Q (.ref p) (upd H1 p (.lst xs.reverse))) ∨ (∃ l : List Nat, x = .str ⟨l.toArray⟩ ∧ l.length ≤ 16777216 ∧ Q (.str ⟨l.reverse.toArray⟩) H1)
theorem pe_revA {e : Expr} {te : TE} {k : Nat} {p1 p2 p3 pos : Pos} (he : PE X e te) : PE X (.Subscript e (.Slice none none (some (.UnaryOp .USub (.Constant (.int 1) k p1) p2)) p3) pos) (tRevA X.K te) := by
  refine ⟨fun pins s σ H Q I h => ?_⟩
  refine Subscript_ (thn (he.run pins s σ H _ I h) fun v s1 ⟨x, H1, I1, r1, q1⟩ => ?_)
  have hst : PO X (some (.UnaryOp .USub (.Constant (.int 1) k p1) p2)) (tPart (tUn (rU fun i => .int (-i)) (tC (.int 1)))) := po_some (pe_un un_neg pe_int)
  refine wpAny_Slice (thn (po_none.run pins s1 σ H1 (fun o H2 => o = none ∧ H2 = H1) I1 ⟨rfl, rfl⟩) fun vl s2 ⟨l, H2, I2, pl, el, e2⟩ => ?_)
  subst el e2
  refine thn (po_none.run pins s2 σ H2 (fun o H3 => o = none ∧ H3 = H2) I2 ⟨rfl, rfl⟩) fun vu s3 ⟨u, H3, I3, pu, eu, e3⟩ => ?_
  subst eu e3
  refine thn (hst.run pins s3 σ H3 (fun o H4 => o = some (-1) ∧ H4 = H3) I3 ⟨1, rfl, -1, rfl, rfl, rfl⟩) fun vs s4 ⟨o, H4, I4, ps, eo, e4⟩ => ?_
  subst eo e4
  have I5 : Inv X pins σ H4 { s4 with heap := s4.heap.push { cls := .type "slice", data := .fields #[vl, vu, vs] } } := I4.kept (t' := s4.toks) fun b ob q => Heap.get?_push_of_some _ q
  rcases q1 with ⟨a, xs, ex, hx, q⟩ | ⟨l, ex, hl, q⟩
  · subst ex
    cases r1
    obtain ⟨its, r, ht, hz⟩ := I5.list hx
    have hlen := r.length
    show wpAny (model X.prog X.w) X.A (subscriptTail e (.Slice none none (some (.UnaryOp .USub (.Constant (.int 1) k p1) p2)) p3) (.ref a) (.ref s4.heap.objs.size)) (EP X pins σ Q) X.xe { s4 with heap := s4.heap.push { cls := .type "slice", data := .fields #[vl, vu, vs] } }
    refine tail_any (ops := [.ref a, .ref s4.heap.objs.size]) ht.isList.typeIs (PySem.slot_list_getitem.lookup) ?_ (by with_unfolding_all rfl)
    refine wpAny_getItem_list_slice ht.isList (Heap.IsSliceOf.new _ vl vu vs) pl pu ps (by decide) ?_ (by rw [List.size_toArray]; omega)
    rw [PySem.W.krv_pick]
    refine ⟨.ref _, _, I5.laid (t' := s4.toks) (o := .lst xs.reverse) (fun b ob q => Heap.get?_push_of_some _ q) (Nat.le_refl _) ?_, rfl, q _ (I5.hok.fresh (Nat.le_refl _))⟩
    exact ⟨by rw [List.length_reverse]; exact hz, _, 0, r.reverse, Heap.get?_push_size _ rfl⟩
  · subst ex
    obtain ⟨t, rfl⟩ := r1
    obtain ⟨l1, rfl, el1⟩ := IsPart.raw pl
    obtain ⟨u1, rfl, eu1⟩ := IsPart.raw pu
    obtain ⟨t1, rfl, et1⟩ := IsPart.raw ps
    have el2 : l1 = none := by cases l1 <;> first | rfl | cases el1
    have eu2 : u1 = none := by cases u1 <;> first | rfl | cases eu1
    subst el2 eu2
    have et2 : ∃ tk, t1 = some (-1, tk) := by
      cases t1 with
      | none => cases et1
      | some p => obtain ⟨i, tk⟩ := p; cases et1; exact ⟨tk, rfl⟩
    obtain ⟨tk, rfl⟩ := et2
    show wpAny (model X.prog X.w) X.A (subscriptTail e (.Slice none none (some (.UnaryOp .USub (.Constant (.int 1) k p1) p2)) p3) (.str ⟨l.toArray⟩ t) (.ref s4.heap.objs.size)) (EP X pins σ Q) X.xe { s4 with heap := s4.heap.push { cls := .type "slice", data := .fields #[partValue none, partValue none, partValue (some (-1, tk))] } }
    refine tail_any (ops := [.ref s4.heap.objs.size, .str ⟨l.toArray⟩ t]) (typeIs_str _ _ _) (F.slot_str_getitem.lookup) ?_ (by with_unfolding_all rfl)
    refine wpAny_getItem_str_slice (l := none) (u := none) (st := some (-1, tk)) ⟨_, Heap.get?_push_size _ rfl, rfl, rfl⟩ (by rfl) ?_
    show Made.post (if ((-1 : Int) == 1 && _) = true then Made.val (.str ⟨l.toArray⟩ t) else Made.str ⟨((Builtin.Str.strSliceIndices none none (-1) l.toArray.size).filterMap (l.toArray[·]?)).toArray⟩) (EP X pins σ Q) _
    rw [if_neg (by simp), krv_range, List.filterMap_reverse, PySem.W.krv_all]
    refine ⟨?_, .str _, H4, I5.tok _, ⟨_, rfl⟩, q⟩
    show l.reverse.toArray.size ≤ sizeLine
    rw [List.size_toArray, List.length_reverse]
    exact hl
end
end Z

/-! Z26: turned round, counted; an error caught and another raised -/
namespace Z
open PySem PySem.Spec PyProof.Rows L2
section
variable {F : Fr} {X : Cx} {wx : WX} {σ : L2.St} {G : Gl} {W W' : Wd} {H H' : Hp} {hp hp' : Hc} {ρ : Rho}
def revD (x : D) (h : Hc) : R D := match unbox h x with
  | .lst ds => .ok (.lst ds.reverse) h
  | .str s => if s.length ≤ 16777216 then .ok (.str s.reverse) h else .bad
  | _ => .bad
def eRev (a : EM) : EM := fun ρ h => (a ρ h).bind revD
theorem rev_imp {x : D} {v : V} {Q : VK} (s : St0 F.G W H hp) (rx : RepB F.G W H x v) (h : Fin F wx σ (Rep F.G) W H Q (revD x hp)) : (∃ a xs, v = .ref a ∧ SqL X.K H a xs ∧ ∀ p, H p = none → Q (.ref p) (upd H p (.lst xs.reverse))) ∨ (∃ l : List Nat, v = .str ⟨l.toArray⟩ ∧ l.length ≤ 16777216 ∧ Q (.str ⟨l.reverse.toArray⟩) H) := by
  have ux := unbox_rep s rx
  unfold revD at h
  split at h
  · rename_i ds e1
    rw [e1] at ux
    obtain ⟨p, vs, ep, tp, rp⟩ := ux
    exact .inl ⟨p, vs, ep, SqL.of tp, fun q hq => Fin.mkLst s hq rp.reverse h⟩
  · rename_i z e1
    rw [e1] at ux
    obtain ⟨rfl, o⟩ := ux
    split at h
    · rename_i hl
      exact .inr ⟨z, rfl, hl, Fin.here h s ⟨rfl, okS_sub o fun c hc => List.mem_reverse.mp hc⟩⟩
    · exact h.elim
  · exact h.elim
theorem e_rev {a : Expr} {ea : EM} {k : Nat} {p1 p2 p3 pos : Pos} (ha : PE X a (TrB F wx ea)) : PE X (.Subscript a (.Slice none none (some (.UnaryOp .USub (.Constant (.int 1) k p1) p2)) p3) pos) (TrE F wx (eRev ea)) :=
  PE.imp (pe_revA ha) fun σ H Q ⟨W, ρ, hp, g, h⟩ => ⟨W, ρ, hp, g, Fin.bind h fun d hp1 W1 v H1 x1 s1 r1 h1 => rev_imp s1 r1 h1⟩
/-- how often a sign stands in a text -/
def mCount (x y : D) (h : Hc) : R D := match x, y with
  | .str a, .str [c] => .ok (.int (a.count c)) h
  | _, _ => .bad
theorem cnt_count (c : Nat) : ∀ l : List Nat, cnt c l = (l.count c : Nat)
  | [] => rfl
  | n :: l => by
    rw [cnt_cons, cnt_count c l, List.count_cons]
    by_cases e : n = c
    · simp [e]; omega
    · simp [e]
theorem s_count : M1S F mCount (fun x xs H Q => ∃ a b, x = .str a ∧ xs = [.str b] ∧ Q (.int (Txt.count a b)) H) := by
  intro wx σ W H hp x y v u Q s rx ry h
  unfold mCount at h
  split at h
  · rename_i a c
    obtain ⟨rfl, o⟩ := rx
    obtain ⟨rfl, o2⟩ := ry
    refine ⟨_, _, rfl, rfl, ?_⟩
    have e : Txt.count ⟨a.toArray⟩ ⟨[c].toArray⟩ = (a.count c : Nat) := by
      rw [show (⟨[c].toArray⟩ : Str) = ⟨#[c]⟩ from rfl, count_cnt, cnt_count]
    rw [e]
    exact Fin.here h s rfl
  · exact h.elim
/-! ### an error caught, another raised -/
theorem FinS.wide {D : Ends} {o : O} {wx' : WX} (h : FinS F wx W H D o) (k : ∀ (c : Nat) (σ : L2.St) (H : Hp), wx (.ref (F.G.ca c)) none σ H → wx' (.ref (F.G.ca c)) none σ H) : FinS F wx' W H D o := by
  cases o with
  | ex c ρ hp => exact fun W' σ' H' g l => k c σ' H' (h W' σ' H' g l)
  | nx _ _ => exact h
  | bk _ _ => exact h
  | ct _ _ => exact h
  | rt _ _ => exact h
  | bad => exact h
def sTryX (sub : Nat → Option Bool) (b hd : SM) : SM := fun ρ h => match b ρ h with
  | .ex c ρ' h' => (match sub c with
    | some true => hd ρ' h'
    | some false => .ex c ρ' h'
    | none => .bad)
  | o => o
theorem tryX_imp {sub : Nat → Option Bool} {c : Value} {b hd : SM} {D : Ends} (hsub : ∀ n b, sub n = some b → PySem.W.exmOne X.K (.ref (F.G.ca n)) c = some b) (h : TrS F wx (sTryX sub b hd) D σ H) :
    TrS F (wOnly X.K c (fun _ _ _ => TrS F wx hd) wx D) b D σ H := by
  obtain ⟨W, ρ, hp, g, h⟩ := h
  refine ⟨W, ρ, hp, g, ?_⟩
  unfold sTryX at h
  revert h
  cases b ρ hp with
  | ex n ρ' hp' =>
    intro h W' σ' H' g' l'
    have h : FinS F wx W H D (match sub n with | some true => hd ρ' hp' | some false => .ex n ρ' hp' | none => .bad) := h
    split at h
    · rename_i es
      exact ⟨true, hsub n true es, fun _ a _ => ⟨W', ρ', hp', g', FinS.lk l' h⟩, fun z => by cases z⟩
    · rename_i es
      exact ⟨false, hsub n false es, fun z => (by cases z), fun _ => h W' σ' H' g' l'⟩
    · exact h.elim
  | nx _ _ => exact fun h => h
  | bk _ _ => exact fun h => h
  | ct _ _ => exact fun h => h
  | rt _ _ => exact fun h => h
  | bad => exact fun h => h
/-- X('m') in an except suite -/
theorem mk5_own {C : Addr} {bmB : List Value} {B newId initId : String} {x m : Str} {j : Nat} {p p2 pos : Pos} (F : ExcBaseFacts B newId initId bmB) (q : PySem.W.excIn X.K C bmB newId = true) (gC : X.mg x = some (.ref C)) (kC : PySem.W.keepIn X.K (.ref C) = true) (r : Raises X (.ref C)) (hg : L2.Gl X x)
    (hdb : (x == ("__debug__" : Str)) = false := by decide) : L2H.PMk5 X (.Call (.Name x p) [.Constant (.str m) j p2] [] pos) (fun _ H Q => Q (.ref C) none H) := by
  intro pins s σ H Q I h
  refine wpAny_Call_Name_kw (ld_glob I hg gC ?_ hdb)
  have ha : PA X [.Constant (.str m) j p2] (tCons (tC (.str m)) tNil) := pa_cons pe_str pa_nil
  refine PySem.W.callWith_K (h₀ := X.base) I.ok.mod.kin kC (thn (ha.run pos pins s σ H (fun vs H1 => vs = [V.str m] ∧ H = H1) I ⟨rfl, rfl⟩) fun us s1 hh => ?_)
  obtain ⟨vs, H1, I1, r1, ev, eH⟩ := hh
  subst ev
  rw [← eH] at I1
  refine ⟨I1.kIn, ?_⟩
  cases r1 with
  | cons ru rn =>
    rename_i u us'
    cases rn
    show wpAny _ _ (call (.ref C) [u]) _ _ _
    obtain ⟨bm, N, nm, qn, bs, hdct, sn, sub, ab, col, dd, k0, k1, k2, k3, k5, mN, hC, hN, hni, T⟩ := exc_obj I1.kIn q
    refine wpAny_call_exc_subT F T hC hN hni (fun h' e hm => ?_) (by show 1 ≤ sizeLine; rw [sizeLine_eq]; omega)
    exact L2H.mk_of5 I1 hm r h (I1.hok.gone hm.new)
theorem mk5_ex {c : Nat} {x m : Str} {j : Nat} {p p2 pos : Pos} (z : ExZ X.K X.mg F.G c x) (hg : L2.Gl X x := by rfl) (hdb : (x == ("__debug__" : Str)) = false := by decide) : L2H.PMk5 X (.Call (.Name x p) [.Constant (.str m) j p2] [] pos) (fun _ H Q => Q (.ref (F.G.ca c)) none H) :=
  mk5_own PySem.F.excBase_ValueError z.ex z.gm z.kp (raises_own z.sub z.ty) hg hdb
theorem s_tryX {x x2 m : Str} {c : Value} {c2 : Nat} {body : List Stmt} {np pos pos' rpos cpos p p2 ppos : Pos} {j j2 : Nat} {sub : Nat → Option Bool} {b : SM} (hs : X.stack = X.env :: X.outer) (hf : X.env.frame = some X.env.locals) (hc : Names X x c) (hpa : ∀ hd : Option Value, PassesOwnAt (model X.prog X.w) (X.A.mark hd) X.A X.env X.xe) (tk : Takes X wx)
    (hsub : ∀ n b, sub n = some b → PySem.W.exmOne X.K (.ref (F.G.ca n)) c = some b) (hx2 : ExZ X.K X.mg F.G c2 x2)
    (hb : ∀ (W : WX) (pn : List (Addr × Obj)) (xe : Value → Shared → Prop), L2N.Takes (X.tr pn xe) W → PSs (X.tr pn xe) body (TrS F W b)) (hg : L2.Gl X x2 := by rfl) (hdb : (x2 == ("__debug__" : Str)) = false := by decide) :
    PS X (.Try body [.ExceptHandler (some (.Name x np)) none [.Raise (some (.Call (.Name x2 p) [.Constant (.str m) j p2] [] ppos)) (some (.Constant .none j2 cpos)) rpos] pos'] [] [] pos) (TrS F wx (sTryX sub b (sRaise c2))) := by
  refine PS.imp (L2H.ps_try_onlyX (tb := fun W => TrS F W b) (ts := fun _ _ _ => TrS F wx (sRaise c2)) hs hf hc hpa tk (fun W pn xe tk1 _ _ => hb W pn xe tk1) fun a oe cls d pn _ _ tk2 hot => ?_) fun D σ H h => tryX_imp hsub h
  have mk : L2H.PMk5 (L2H.suiteX X a ((a, oe) :: pn)) (.Call (.Name x2 p) [.Constant (.str m) j p2] [] ppos) (fun _ H Q => Q (.ref (F.G.ca c2)) none H) := mk5_own (X := L2H.suiteX X a ((a, oe) :: pn)) PySem.F.excBase_ValueError hx2.ex hx2.gm hx2.kp (raises_own hx2.sub hx2.ty) hg hdb
  exact ss_one (PS.imp (L2H.ps_raiseHN hot tk2 mk) fun D σ H ⟨W, ρ, hp, g, h⟩ => h W σ H g (Lk.refl _ _))
end
end Z

/-! Z27: defs whose errors bear no other error -/
namespace Z
open PySem PySem.Spec PyProof.Rows L2
section
variable {P : Program} {w : World} {K : PySem.W.Frag} {mg : Str → Option Value} {base : Heap} {x qual : Str} {params : Arguments} {body : List Stmt} {scope : Scope} {f : Addr} {fd : FuncData} {G : Gl}
theorem fn_okN {N ps : List Str} {k : Nat} {sm : SM} (F : FunD K x qual params body scope [] [] f fd) (S : FnScope N ps scope)
    (hbody : ∀ (W : Wd) (c : Addr) (A : Around) (outer : List Env) (s : Shared) (H : Hp) (E : XK), fd.code = .ref c → Room k (A.deeper (envOfC qual scope s.heap.objs.size f (.ref c))) →
      PSs (cxOf (L2N.CX P w) P w K mg base N qual scope f (.ref c) A outer s H E) body (TrS ⟨G, W, H⟩ (wxE E) sm)) : FnOk P w K mg base (L2N.CX P w) (k + 1) f fd ps (spOf G (mkF N.length sm) ps.length) := by
  obtain ⟨oc, od, dV, kV, doc, pm, an, cdv, ct, osl, rfl, lk, hcd, _, _⟩ := F.ex
  obtain ⟨c, rfl⟩ := He.codeIn_ref hcd
  refine fn_of lk hcd S (fun vs H Q E h => h.len) fun A outer s H vs Q E hr hsp => ?_
  obtain ⟨W, hp, ds, st, r, hl, q⟩ := hsp
  refine ⟨_, hbody W c A outer s H E rfl hr, W, _, hp, start_gd st r, ?_⟩
  unfold mkF at q
  revert q
  cases sm (startR N.length ds) hp with
  | nx ρ h => exact fun q W' σ' H' g _ => q W' .non H' g.x0 g.st rfl
  | rt d h => exact fun q => q
  | ex c ρ h => exact fun q W' σ' H' g _ => q W' H' g.x0 g.st
  | bk ρ h => exact fun q => q.elim
  | ct ρ h => exact fun q => q.elim
  | bad => exact fun q => q
theorem takes_fnN {N : List Str} {cd : Value} {A : Around} {outer : List Env} {s : Shared} {H : Hp} {E : XK} : L2N.Takes (cxOf (L2N.CX P w) P w K mg base N qual scope f cd A outer s H E) (wxE E) := L2N.takes_of rfl rfl rfl rfl
theorem owns_fnN {N : List Str} {cd : Value} {A : Around} {outer : List Env} {s : Shared} {H : Hp} {E : XK} : PassesOwn (model P w) (cxOf (L2N.CX P w) P w K mg base N qual scope f cd A outer s H E).A (cxOf (L2N.CX P w) P w K mg base N qual scope f cd A outer s H E).env (cxOf (L2N.CX P w) P w K mg base N qual scope f cd A outer s H E).xe :=
  passes_of (X := cxOf (L2N.CX P w) P w K mg base N qual scope f cd A outer s H E) (K := fun e s'' => L2N.CX P w outer H s E e s'') rfl
theorem pat_fn {N : List Str} {cd : Value} {A : Around} {outer : List Env} {s : Shared} {H : Hp} {E : XK} (hd : Option Value) : PassesOwnAt (model P w) ((cxOf (L2.CX P w) P w K mg base N qual scope f cd A outer s H E).A.mark hd) (cxOf (L2.CX P w) P w K mg base N qual scope f cd A outer s H E).A (cxOf (L2.CX P w) P w K mg base N qual scope f cd A outer s H E).env (cxOf (L2.CX P w) P w K mg base N qual scope f cd A outer s H E).xe :=
  L2H.passesAt_of (X := cxOf (L2.CX P w) P w K mg base N qual scope f cd A outer s H E) (K := fun e s'' => L2.CX P w outer H s E e s'') rfl hd
structure FnZN (P : Program) (w : World) (K : PySem.W.Frag) (mg : Str → Option Value) (base : Heap) (G : Gl) (k : Nat) (x : Str) (n : Nat) (m : FM) : Prop where
  ex : ∃ (f : Addr) (fd : FuncData) (ps : List Str), ps.length = n ∧ FnOk P w K mg base (L2N.CX P w) k f fd ps (spOf G m n) ∧ mg x = some (.ref f) ∧ PySem.W.keepIn K (.ref f) = true ∧ Binds K fd ps []
end
section
variable {F : Fr} {X : Cx} {wx : WX} {σ : L2.St} {k k' n : Nat} {x : Str} {m : FM} {p pos : Pos} {e : Expr} {es : List Expr} {am : AM}
theorem e_callN (C : FnZN X.prog X.w X.K X.mg X.base F.G k x n m) (hr : Room k' X.A) (tk : L2N.Takes X wx) (ha : PA X (e :: es) (TrA F wx am)) (hk : k ≤ k' := by decide) (hg : L2.Gl X x := by rfl)
    (hdb : (x == ("__debug__" : Str)) = false := by decide) (he : starEach (e :: es) X.env = (false, eval e X.env) :: starEach es X.env := by rfl) (hpl : (backTo pos (starEach es X.env)).any (·.1) = false := by rfl) : PE X (.Call (.Name x p) (e :: es) [] pos) (TrE F wx (eCall n m am)) := by
  obtain ⟨f, fd, ps, hl, ok, hm, kp, bd⟩ := C.ex
  exact PE.imp (pe_callS ok (hr.mono hk) hg hm kp bd (L2N.passAt tk) ha hdb he hpl) fun σ H Q h => call_imp h
theorem s_raiseN {e : Expr} {c : Nat} {pos : Pos} (hc : X.calm = true) (tk : L2N.Takes X wx) (he : L2N.PMk X e (fun _ H Q => Q (.ref (F.G.ca c)) none H)) : PS X (.Raise (some e) none pos) (TrS F wx (sRaise c)) :=
  PS.imp (L2N.ps_raise hc tk he) fun D σ H ⟨W, ρ, hp, g, h⟩ => h W σ H g (Lk.refl _ _)
theorem mk_exN {c : Nat} {x m : Str} {j : Nat} {p p2 pos : Pos} (z : ExZ X.K X.mg F.G c x) (hg : L2.Gl X x := by rfl) (hdb : (x == ("__debug__" : Str)) = false := by decide) : L2N.PMk X (.Call (.Name x p) [.Constant (.str m) j p2] [] pos) (fun _ H Q => Q (.ref (F.G.ca c)) none H) :=
  (mk5_ex z hg hdb).pmk
end
end Z

/-! Z28: sum of lists -/
namespace Z
open PySem PySem.Spec PyProof.Rows L2
section
variable {prog : Program} {w : World} {A : Around} {R : Result → Shared → Prop}
def lsO (its : List Value) (n : Nat) : Obj := { cls := .type "list", data := .seq its.toArray n }
theorem sum_args2 (a b : Value) : argsOk "sum" ⟨[a, b], []⟩ := by unfold argsOk; kernel_rfl
/-- the items of a list of lists, as they stand in a heap -/
def Lists (h : Heap) (its : List Value) (xss : List (List Value)) : Prop := its.length = xss.length ∧ ∀ (i : Nat) (v : Value), its[i]? = some v → ∃ (a : Addr) (n : Nat) (xs : List Value), v = Value.ref a ∧ xss[i]? = some xs ∧ h.get? a = some (lsO xs n)
theorem sumL_loop {I l : Addr} {its : List Value} {xss : List (List Value)} {h0 : Heap} (hh : A.handled = none) (hIl : l ≠ I) (hI0 : h0.get? I = none) (L0 : Lists h0 its xss) (S : Addr) (hS0 : h0.get? S = none) (hSI : S ≠ I) (hSl : S ≠ l) : ∀ (k i : Nat) (s : Shared) (T : Addr) (acc : List Value) (n c : Nat), its.length - i = k → i ≤ its.length →
    s.heap.IsListIter I l i → s.heap.IsList l its.toArray → s.heap.get? S = some { cls := .type "list", dict := none, data := .seq #[Value.ref T] c, slots := #[] } → (∀ b o, h0.get? b = some o → s.heap.get? b = some o) → s.heap.get? T = some (lsO acc n) → T ≠ I → T ≠ S → (h0.get? T = none ∨ i = 0) → acc.length + (xss.drop i).flatten.length ≤ sizeLine →
    (∀ s' T' n', (∀ b o, h0.get? b = some o → s'.heap.get? b = some o) → s'.heap.get? T' = some (lsO (acc ++ (xss.drop i).flatten) n') → s'.gens = s.gens → s'.drawn = s.drawn → s'.os = s.os → ((h0.get? T' = none ∧ i < its.length) ∨ (T' = T ∧ i = its.length)) → R (.ok (.ret (.ref T'))) s') →
    codeAny (model prog w) A (.builtin "sum.loop" ⟨[.ref I, .ref S, rawInt 2, rawInt 0], []⟩) R s := by
  have W := (Walks.list (prog := prog) (w := w) (A := A.in1) hh I l hIl its.toArray).toS
  intro k
  induction k with
  | zero =>
    intro i s T acc n c hk hi hit hl hS kp hT hTI hTS h0T hz hR
    have hin : i = its.length := by omega
    subst hin
    refine codeAny_builtin F.entry_sum_loop ?_
    rw [Around.under_plainId F.plain_sum_loop _]
    show wpAny _ A.in1 (seqItems? (.ref S) >>= _) _ _ s
    refine wpAny_bind (wpAny_seqItems hS rfl ?_)
    show wpAny _ A.in1 (tryCatch (pyNext (.ref I)) _ >>= _) _ _ s
    refine wpAny_bind (wpAny_tryCatch (W.done s _ _ (by rw [List.size_toArray]; exact ⟨hit, hl⟩) fun s' hm => ?_))
    refine wpAny_pure (hR s' T n (fun b o e => hm.heap b o (fun hb => ?_) (kp b o e)) ?_ hm.gens hm.drawn hm.os (.inr ⟨rfl, rfl⟩))
    · rw [List.mem_singleton.mp hb, hI0] at e
      cases e
    · have e : (xss.drop its.length).flatten = [] := by rw [L0.1, List.drop_length]; rfl
      rw [e, List.append_nil]
      exact hm.heap T _ (fun hb => hTI (List.mem_singleton.mp hb)) hT
  | succ k ih =>
    intro i s T acc n c hk hi hit hl hS kp hT hTI hTS h0T hz hR
    have hlt : i < its.length := by omega
    refine codeAny_builtin F.entry_sum_loop ?_
    rw [Around.under_plainId F.plain_sum_loop _]
    show wpAny _ A.in1 (seqItems? (.ref S) >>= _) _ _ s
    refine wpAny_bind (wpAny_seqItems hS rfl ?_)
    show wpAny _ A.in1 (tryCatch (pyNext (.ref I)) _ >>= _) _ _ s
    refine wpAny_bind (wpAny_tryCatch (W.item i s _ _ (by rw [List.size_toArray]; exact hlt) ⟨hit, hl⟩ fun v s' hP hst' hm => ?_))
    have hP : its[i]? = some v := by simpa using hP
    obtain ⟨a, na, xs, rfl, ex, ea⟩ := L0.2 i v hP
    have noI : ∀ {b : Addr} {o : Obj}, h0.get? b = some o → b ∉ [I] := fun {b o} e hb => by
      rw [List.mem_singleton.mp hb, hI0] at e
      cases e
    have hS' := hm.heap S _ (fun hb => hSI (List.mem_singleton.mp hb)) hS
    have hT' := hm.heap T _ (fun hb => hTI (List.mem_singleton.mp hb)) hT
    have ha' := hm.heap a _ (noI ea) (kp a _ ea)
    have kp' : ∀ b o, h0.get? b = some o → s'.heap.get? b = some o := fun b o e => hm.heap b o (noI e) (kp b o e)
    have ed : (xss.drop i).flatten = xs ++ (xss.drop (i + 1)).flatten := by
      have hx := (List.getElem?_eq_some_iff.mp ex).1
      rw [List.drop_eq_getElem_cons hx, List.flatten_cons, (List.getElem?_eq_some_iff.mp ex).2]
    rw [ed, List.length_append] at hz
    show wpAny _ A.in1 ((holding [Value.ref a] (binaryOp .Add (.ref T) (.ref a))).attempt >>= _) _ _ _
    refine wpAny_bind (wpAny_attempt (wpAny_holding (PySem.P.add_list (items := acc.toArray) (items2 := xs.toArray) hT' ha' ?_ (by rw [List.size_toArray, List.size_toArray]; omega))))
    have eq2 : acc.toArray ++ xs.toArray = (acc ++ xs).toArray := by simp
    rw [eq2]
    have up : ∀ b o, s'.heap.get? b = some o → (s'.heap.push { cls := .type "list", data := .seq (acc ++ xs).toArray }).get? b = some o := fun b o e => Heap.get?_push_of_some _ e
    show wpAny _ A.in1 (updateSeq S (fun _ => #[.ref s'.heap.objs.size]) >>= _) _ _ _
    have hS1 := up _ _ hS'
    refine wpAny_bind (wpAny_updateSeq hS1 rfl ?_)
    have hS₂ := Heap.get?_update_self (Obj.mapSeq fun _ => #[Value.ref s'.heap.objs.size]) hS1 rfl
    refine wpAny_bind (wpAny_letGo ?_)
    have oth : ∀ {b : Addr} {o : Obj}, S ≠ b → s'.heap.get? b = some o → (((s'.heap.push { cls := .type "list", data := .seq (acc ++ xs).toArray }).update S (Obj.mapSeq fun _ => #[Value.ref s'.heap.objs.size])).update S (Obj.mapSeq fun _ => #[Value.ref s'.heap.objs.size])).get? b = some o := fun {b o} ne e =>
      (Heap.get?_update_other _ _ ne).trans ((Heap.get?_update_other _ _ ne).trans (up b o e))
    have newO : (s'.heap.push { cls := .type "list", data := .seq (acc ++ xs).toArray }).get? s'.heap.objs.size = some (lsO (acc ++ xs) 0) := Heap.get?_push_size _ rfl
    have neS : S ≠ s'.heap.objs.size := fun z => by
      have q := Heap.lt_size hS'
      rw [z] at q
      exact Nat.lt_irrefl _ q
    have neI : s'.heap.objs.size ≠ I := fun z => by
      obtain ⟨o, ho, _⟩ := id hst'.1
      have q := Heap.lt_size ho
      rw [← z] at q
      exact Nat.lt_irrefl _ q
    have gone : h0.get? s'.heap.objs.size = none := by
      cases q : h0.get? s'.heap.objs.size with
      | none => rfl
      | some o => exact absurd (Heap.lt_size (kp' _ o q)) (Nat.lt_irrefl _)
    refine wpAny_bind (wpAny_updateSeq hS₂ rfl (wpAny_pure ⟨plainId_quiet F.plain_sum_loop _, ih (i + 1) _ s'.heap.objs.size (acc ++ xs) 0 _ (by omega) hlt (hst'.1.at fun o e => oth (fun z => hSI z) e) (hst'.2.at fun o e => oth (fun z => hSl z) e)
      (Heap.get?_update_self _ hS₂ rfl) (fun b o e => oth (fun z => by rw [← z, hS0] at e; cases e) (kp' b o e)) ((Heap.get?_update_other _ _ neS).trans ((Heap.get?_update_other _ _ neS).trans newO)) neI (fun z => neS z.symm) (.inl gone) (by rw [List.length_append]; omega) fun s'' T'' n'' k2 e2 g2 d2 o2 f2 => ?_⟩))
    refine hR s'' T'' n'' k2 ?_ (g2.trans hm.gens) (d2.trans hm.drawn) (o2.trans hm.os) (.inl ⟨?_, hlt⟩)
    · rw [ed, ← List.append_assoc]
      exact e2
    · rcases f2 with ⟨f2, _⟩ | ⟨f2, _⟩
      · exact f2
      · rw [f2]; exact gone
end
section
variable {prog : Program} {w : World} {A : Around} {E : Value → Shared → Prop} {s : Shared}
theorem sumL_raw {l b : Addr} {its : List Value} {xss : List (List Value)} {nl nb : Nat} {Q : Value → Shared → Prop} (hh : A.handled = none) (hl : s.heap.get? l = some (lsO its nl)) (hb : s.heap.get? b = some (lsO [] nb)) (L0 : Lists s.heap its xss) (hz : xss.flatten.length ≤ sizeLine)
    (h : ∀ h' tk T' n', (∀ c o, s.heap.get? c = some o → h'.get? c = some o) → h'.get? T' = some (lsO xss.flatten n') → ((s.heap.get? T' = none ∧ its ≠ []) ∨ (T' = b ∧ its = [])) → Q (.ref T') { s with heap := h', toks := tk }) :
    wpAny (model prog w) A (call (.builtin "sum") [.ref l, .ref b]) Q E s := by
  have hL : s.heap.IsList l its.toArray := ⟨_, hl, rfl, nl, rfl⟩
  refine call_function_tree F.kind_sum F.plain_sum F.entry_sum (sum_args2 _ _) ?_
  unfold Builtin.«sum»
  simp only [List.length_cons, List.length_nil]
  rw [if_neg (by decide)]
  refine wpAny_bind (wpAny_of_eq (show Builtin.Builtins.bindParams "sum" ["start"] 0 ⟨[.ref b], []⟩ = pure [some (.ref b)] from rfl) ?_)
  refine wpAny_bind (wpAny_pyIter_list hL ?_)
  refine wpAny_bind (wpAny_pure ?_)
  have kp1 : ∀ c o, s.heap.get? c = some o → (s.heap.push { cls := .type "list_iterator", data := .fields #[.ref l, .int 0 0] }).get? c = some o := fun c o e => Heap.get?_push_of_some _ e
  have hb1 := kp1 _ _ hb
  have tb : ∀ (s2 : Shared), s2.heap.get? b = some (lsO [] nb) → s2.TypeIs (.ref b) "list" := fun s2 e => (show s2.heap.IsList b #[] from ⟨_, e, rfl, nb, rfl⟩).typeIs
  simp only [List.forIn_cons, List.forIn_nil]
  refine wpAny_bind (wpAny_bind (wpAny_bind (wpAny_isInstance (T := "list") (b := false) (tb _ hb1) F.sub_list_str ?_)))
  simp only [Bool.false_eq_true, if_false]
  refine wpAny_pure (wpAny_bind (wpAny_bind (wpAny_isInstance (T := "list") (b := false) (tb _ hb1) F.sub_list_bytes ?_)))
  simp only [Bool.false_eq_true, if_false]
  refine wpAny_pure (wpAny_bind (wpAny_bind (wpAny_isInstance (T := "list") (b := false) (tb _ hb1) F.sub_list_bytearray ?_)))
  simp only [Bool.false_eq_true, if_false]
  refine wpAny_pure (wpAny_pure ?_)
  refine wpAny_bind (wpAny_newObj_type ?_)
  have szl := Heap.lt_size hl
  have szb := Heap.lt_size hb
  have none_at : ∀ {h : Heap} {a : Addr}, h.objs.size ≤ a → h.get? a = none := fun {h a} q => by
    cases e : h.get? a with
    | none => rfl
    | some o => exact absurd (Nat.lt_of_lt_of_le (Heap.lt_size e) q) (Nat.lt_irrefl _)
  have sz1 : (s.heap.push { cls := .type "list_iterator", data := .fields #[.ref l, .int 0 0] }).objs.size = s.heap.objs.size + 1 := Heap.size_push _ _
  have up2 : ∀ c o, (s.heap.push { cls := .type "list_iterator", data := .fields #[.ref l, .int 0 0] }).get? c = some o → ((s.heap.push { cls := .type "list_iterator", data := .fields #[.ref l, .int 0 0] }).push { cls := .type "list", data := .seq [Value.ref b].toArray }).get? c = some o := fun c o e => Heap.get?_push_of_some _ e
  have lit : (s.heap.push { cls := .type "list_iterator", data := .fields #[.ref l, .int 0 0] }).get? s.heap.objs.size = some { cls := .type "list_iterator", data := .fields #[.ref l, .int 0 0] } := Heap.get?_push_size _ rfl
  refine wpAny_pure ⟨plainId_quiet F.plain_sum_loop _, sumL_loop (h0 := s.heap) hh (Nat.ne_of_lt szl) (none_at (Nat.le_refl _)) L0 (s.heap.push { cls := .type "list_iterator", data := .fields #[.ref l, .int 0 0] }).objs.size
    (none_at (by rw [sz1]; exact Nat.le_succ _)) (by rw [sz1]; exact Nat.succ_ne_self _) (by rw [sz1]; exact fun z => by rw [← z] at szl; exact absurd szl (Nat.not_lt_of_le (Nat.le_succ _))) its.length 0 _ b [] nb 0 rfl (Nat.zero_le _) ?_ ?_ ?_ ?_ ?_ ?_ ?_ (.inr rfl) (by simpa using hz) fun s' T' n' k2 e2 g2 d2 o2 f2 => ?_⟩
  · exact ⟨_, up2 _ _ lit, rfl, rfl⟩
  · exact ⟨_, up2 _ _ (kp1 _ _ hl), rfl, nl, rfl⟩
  · exact Heap.get?_push_size _ rfl
  · exact fun c o e => up2 _ _ (kp1 _ _ e)
  · exact up2 _ _ hb1
  · exact Nat.ne_of_lt szb
  · rw [sz1]; exact Nat.ne_of_lt (Nat.lt_succ_of_lt szb)
  · obtain ⟨h', g', d', tk', os'⟩ := s'
    have g2 : g' = s.gens := g2
    have d2 : d' = s.drawn := d2
    have o2 : os' = s.os := o2
    subst g2 d2 o2
    refine h h' tk' T' n' k2 (by simpa using e2) ?_
    rcases f2 with ⟨f2, f3⟩ | ⟨f2, f3⟩
    · exact .inl ⟨f2, fun z => by rw [z] at f3; exact absurd f3 (Nat.not_lt_zero _)⟩
    · exact .inr ⟨f2, List.length_eq_zero_iff.mp f3.symm⟩
end
section
variable {F : Fr} {X : Cx} {wx : WX} {σ : L2.St} {G : Gl} {W W' : Wd} {H H' : Hp} {hp hp' : Hc} {ρ : Rho}
def ListsV (H : Hp) (xs : List V) (xss : List (List V)) : Prop := xs.length = xss.length ∧ ∀ (i : Nat) (v : V), xs[i]? = some v → ∃ (a : Addr) (ys : List V), v = .ref a ∧ xss[i]? = some ys ∧ H a = some (.lst ys)
def rSumL : List V → Hp → VK → Prop := fun vs H Q => ∃ (l b : Addr) (xs : List V) (xss : List (List V)), vs = [.ref l, .ref b] ∧ H l = some (.lst xs) ∧ H b = some (.lst []) ∧ ListsV H xs xss ∧ xss.flatten.length ≤ sizeLine ∧ (xs = [] → Q (.ref b) H) ∧ (xs ≠ [] → ∀ p, H p = none → Q (.ref p) (upd H p (.lst xss.flatten)))
theorem lists_of {pins : List (Addr × Obj)} {s : Shared} (I : Inv X pins σ H s) : ∀ (xs : List V) (its : List Value) (xss : List (List V)), Vals xs its → ListsV H xs xss → ∃ itss : List (List Value), Lists s.heap its itss ∧ Vals xss.flatten itss.flatten
  | [], _, xss, r, h => by
    cases r
    have : xss = [] := List.length_eq_zero_iff.mp h.1.symm
    subst this
    exact ⟨[], ⟨rfl, fun i v e => by cases e⟩, .nil⟩
  | x :: xs, _, xss, r, h => by
    cases r with
    | cons rx rr =>
      rename_i u us
      cases xss with
      | nil => cases h.1
      | cons ys xss =>
        obtain ⟨a, ys', ex, ey, ea⟩ := h.2 0 x rfl
        cases ey
        subst ex
        obtain ⟨itss, L, V⟩ := lists_of I xs us xss rr ⟨by have := h.1; simpa using this, fun i v e => h.2 (i + 1) v e⟩
        obtain ⟨_, its, n, r2, _, e2⟩ := I.lstM ea
        cases rx
        refine ⟨its :: itss, ⟨by rw [List.length_cons, List.length_cons, L.1], fun i v e => ?_⟩, r2.append V⟩
        cases i with
        | zero =>
          cases e
          exact ⟨a, n, its, rfl, rfl, e2⟩
        | succ i => exact L.2 i v e
theorem cr_sumL (hc : X.calm = true) : CallR X (.builtin "sum") rSumL := by
  intro pins s σ H vs us Q I r h
  obtain ⟨l, b, xs, xss, rfl, hl, hb, hv, hz, q0, q1⟩ := h
  obtain ⟨_, its, nl, rv, _, el⟩ := I.lstM hl
  obtain ⟨_, itb, nb, rb, _, eb⟩ := I.lstM hb
  cases rb
  obtain ⟨itss, L, V⟩ := lists_of I xs its xss rv hv
  have eu : us = [.ref l, .ref b] := by
    cases r with
    | cons r1 r =>
      cases r with
      | cons r2 r =>
        cases r
        cases r1
        cases r2
        rfl
  subst eu
  refine sumL_raw (I.ok.hd hc) el eb L (by rw [← V.length]; exact hz) fun h' tk T' n' k e f => ?_
  rcases f with ⟨f, f0⟩ | ⟨f1, f2⟩
  · have he : xs ≠ [] := fun z => by
      subst z
      cases rv
      exact f0 rfl
    exact ⟨.ref T', upd H T' (.lst xss.flatten), I.laidN (t' := tk) k f (I.hok.gone f) ⟨hz, itss.flatten, n', V, e⟩, rfl, q1 he T' (I.hok.gone f)⟩
  · subst f1 f2
    cases rv
    exact ⟨.ref T', H, I.kept k, rfl, q0 rfl⟩
/-! ### as a mirror -/
def lsts? : List D → Option (List (List D))
  | [] => some []
  | .lst xs :: r => (lsts? r).map (xs :: ·)
  | _ :: _ => none
theorem lists_rep : ∀ (ds : List D) (dss : List (List D)) (vs : List V), lsts? ds = some dss → Reps G W H ds vs → ∃ vss : List (List V), ListsV H vs vss ∧ Reps G W H dss.flatten vss.flatten
  | [], dss, vs, e, r => by
    cases e
    cases r
    exact ⟨[], ⟨rfl, fun i v e => by cases e⟩, rfl⟩
  | d :: ds, dss, vs, e, r => by
    obtain ⟨v, r2, rfl, hv, rr⟩ := r
    cases d with
    | lst xs =>
      cases q : lsts? ds with
      | none => simp [lsts?, q] at e
      | some dss' =>
        have e : some (xs :: dss') = some dss := by rw [← e]; simp [lsts?, q]
        cases e
        obtain ⟨a, us, rfl, ⟨_, ha⟩, ru⟩ := hv
        obtain ⟨vss, L, R⟩ := lists_rep ds dss' r2 q rr
        refine ⟨us :: vss, ⟨by rw [List.length_cons, List.length_cons, L.1], fun i v e => ?_⟩, ru.append R⟩
        cases i with
        | zero => cases e; exact ⟨a, us, rfl, rfl, ha⟩
        | succ i => exact L.2 i v e
    | _ => cases e
def sumLD (d : D) (h : Hc) : R D := match d with
  | .lst ds => (match lsts? ds with
    | some dss => if dss.flatten.length ≤ 16777216 then .ok (.lst dss.flatten) h else .bad
    | none => .bad)
  | _ => .bad
def eSumL (a : EM) : EM := fun ρ h => (a ρ h).bind sumLD
theorem e_sumL {e : Expr} {ea : EM} {p pos lp : Pos} (hc : X.calm = true) (hm : X.mg "sum" = none) (ha : PE X e (TrE F wx ea)) (hg : L2.Gl X "sum" := by rfl)
    (he : starEach (e :: [.List [] lp]) X.env = (false, eval e X.env) :: starEach [.List [] lp] X.env := by rfl) (he2 : starEach (.List [] lp :: []) X.env = (false, eval (.List [] lp) X.env) :: starEach [] X.env := by rfl) (hpl : (backTo pos (starEach [.List [] lp] X.env)).any (·.1) = false := by rfl) :
    PE X (.Call (.Name "sum" p) [e, .List [] lp] [] pos) (TrE F wx (eSumL ea)) :=
  PE.imp (pe_callB (cr_sumL hc) hg hm (by kernel_rfl) (pa_cons ha (pa_cons (n_e (wx := wx) (n_lst a_nil)) pa_nil he2) he) (by decide) (by decide) he hpl) fun σ H Q ⟨W, ρ, hp, g, h⟩ => ⟨W, ρ, hp, g, Fin.bind h fun d hp1 W1 v H1 x1 s1 r1 h1 =>
    ⟨W1, ρ, hp1, g.ext x1 s1, fun W2 u H2 x2 s2 r2 => by
      have r1 := r1.ext x2.toLk
      have h1 := Fin.ext x2 h1
      obtain ⟨b, us, rfl, ⟨fb, hb⟩, ru⟩ := r2
      cases ru
      unfold sumLD at h1
      split at h1
      · split at h1
        · rename_i dss q
          split at h1
          · rename_i hl
            obtain ⟨l, vs, rfl, ⟨_, hL⟩, rv⟩ := r1
            obtain ⟨vss, L, R⟩ := lists_rep _ dss vs q rv
            refine ⟨l, b, vs, vss, rfl, hL, hb, L, by rw [← R.length]; exact lim_ok hl, fun z => ?_, fun z q hq => Fin.mkLst s2 hq R h1⟩
            subst z
            have : vss = [] := List.length_eq_zero_iff.mp L.1.symm
            subst this
            have e : dss.flatten = [] := List.length_eq_zero_iff.mp R.length
            rw [e] at h1
            exact Fin.here h1 s2 ⟨b, [], rfl, ⟨fb, hb⟩, rfl⟩
          · exact h1.elim
        · exact h1.elim
      · exact h1.elim⟩⟩
end
end Z

/-! Z29: zip of two texts -/
namespace Z
open PySem PySem.Spec PyProof.Rows L2 RZ
abbrev AS : String := "str_ascii_iterator"
section
abbrev zsH1 (h : Heap) (x : Str) (t : Tok) : Heap := h.push { cls := .type "str_ascii_iterator", data := .fields #[.str x t, .int 0 0] }
abbrev zsH2 (h : Heap) (x y : Str) (t u : Tok) : Heap := (zsH1 h x t).push { cls := .type "str_ascii_iterator", data := .fields #[.str y u, .int 0 0] }
abbrev zsH3 (h : Heap) (x y : Str) (t u : Tok) : Heap := (zsH2 h x y t u).push { cls := .type "tuple", data := .seq #[.ref h.objs.size, .ref (zsH1 h x t).objs.size] }
abbrev zsH4 (h : Heap) (x y : Str) (t u : Tok) : Heap := (zsH3 h x y t u).push { cls := .type "tuple", data := .seq #[.none, .none] }
abbrev zsH5 (h : Heap) (x y : Str) (t u : Tok) : Heap := (zsH4 h x y t u).push { cls := .type "zip", data := .fields #[.none, .bool false, .bool false, .ref (zsH2 h x y t u).objs.size, .ref (zsH3 h x y t u).objs.size] }
theorem meets_zipS (x y : Str) (t u : Tok) (hx : x.cps.all (· < 128) = true) (hy : y.cps.all (· < 128) = true) :
    Meets (Builtin.«zip.__new__» ⟨[.type "zip", .str x t, .str y u], []⟩) (fun _ R s => R (.ok (.ret (.ref (zsH4 s.heap x y t u).objs.size))) { s with heap := zsH5 s.heap x y t u }) :=
  .of_wp fun prog w A R s h => by
    obtain ⟨hp, g, d, tk, os⟩ := s
    have hsub := sub_zip
    wp_walk using wpAny_pyIter_ascii hx, wpAny_pyIter_ascii hy
    exact ⟨_, rfl, h⟩
variable {prog : Program} {w : World} {A : Around} {E : Value → Shared → Prop} {s : Shared}
theorem call_zipS {x y : Str} {t u : Tok} {Q : Value → Shared → Prop} (hx : x.cps.all (· < 128) = true) (hy : y.cps.all (· < 128) = true)
    (h : ∀ h', IsZip h' (s.heap.objs.size + 4) (s.heap.objs.size + 2) (s.heap.objs.size + 3) .none → IsTupOf2 h' (s.heap.objs.size + 2) (.ref s.heap.objs.size) (.ref (s.heap.objs.size + 1)) →
      IsTupOf2 h' (s.heap.objs.size + 3) .none .none → h'.IsStrIter s.heap.objs.size AS x t 0 → h'.IsStrIter (s.heap.objs.size + 1) AS y u 0 → h'.objs.size = s.heap.objs.size + 5 →
      (∀ c o, s.heap.get? c = some o → h'.get? c = some o) → Q (.ref (s.heap.objs.size + 4)) { s with heap := h' }) :
    wpAny (model prog w) A (call (.type "zip") [.str x t, .str y u]) Q E s := by
  refine callType_new F.called_zip (by decide) (F.typeCall_zip_2 _ _) (F.newCall_zip_2 _ _) (fun obj => F.args_object_init_3 obj _ _) F.entry_zip_new
    (meets_zipS x y t u hx hy) ?_
  have z1 : (zsH1 s.heap x t).objs.size = s.heap.objs.size + 1 := Heap.size_push ..
  have z2 : (zsH2 s.heap x y t u).objs.size = s.heap.objs.size + 2 := by rw [Heap.size_push, z1]
  have z3 : (zsH3 s.heap x y t u).objs.size = s.heap.objs.size + 3 := by rw [Heap.size_push, z2]
  have z4 : (zsH4 s.heap x y t u).objs.size = s.heap.objs.size + 4 := by rw [Heap.size_push, z3]
  have z5 : (zsH5 s.heap x y t u).objs.size = s.heap.objs.size + 5 := by rw [Heap.size_push, z4]
  have g5 : (zsH5 s.heap x y t u).get? (zsH4 s.heap x y t u).objs.size = some _ := Heap.get?_push_size _ rfl
  have g4 : (zsH5 s.heap x y t u).get? (zsH3 s.heap x y t u).objs.size = some _ := Heap.get?_push_of_some _ (Heap.get?_push_size _ rfl)
  have g3 : (zsH5 s.heap x y t u).get? (zsH2 s.heap x y t u).objs.size = some _ := Heap.get?_push_of_some _ (Heap.get?_push_of_some _ (Heap.get?_push_size _ rfl))
  have g2 : (zsH5 s.heap x y t u).get? (zsH1 s.heap x t).objs.size = some _ := Heap.get?_push_of_some _ (Heap.get?_push_of_some _ (Heap.get?_push_of_some _ (Heap.get?_push_size _ rfl)))
  have g1 : (zsH5 s.heap x y t u).get? s.heap.objs.size = some _ := Heap.get?_push_of_some _ (Heap.get?_push_of_some _ (Heap.get?_push_of_some _ (Heap.get?_push_of_some _ (Heap.get?_push_size _ rfl))))
  show _ ∧ _
  rw [z2, z3, z4] at g5
  rw [z1, z2] at g3
  rw [z3] at g4
  rw [z1] at g2
  rw [z4]
  exact ⟨⟨_, g5, rfl⟩, h _ g5 g3 g4 ⟨_, g1, rfl, rfl⟩ ⟨_, g2, rfl, rfl⟩ z5 fun c o x =>
    Heap.get?_push_of_some _ (Heap.get?_push_of_some _ (Heap.get?_push_of_some _ (Heap.get?_push_of_some _ (Heap.get?_push_of_some _ x))))⟩
end
/-- the signs of two texts in new pairs -/
def Itzs (x y : Str) : It := ⟨fun i _ => i < x.cps.size ∧ i < y.cps.size,
  fun i H v H' => ∃ T c d, v = .ref T ∧ H T = none ∧ H' = upd H T (.tup [.str ⟨#[c]⟩, .str ⟨#[d]⟩]) ∧ x.cps[i]? = some c ∧ y.cps[i]? = some d, fun i _ => x.cps.size ≤ i ∨ y.cps.size ≤ i⟩
theorem drawsEnd {prog : Program} {w : World} {A : Around} (hh : A.handled = none) (it : Addr) (x : Str) (t : Tok) (i : Nat) (hx : x.cps.size ≤ i) :
    Draws prog w A it [it] i (fun _ _ => True) (fun k h => h.IsStrIter it "str_ascii_iterator" x t k ∧ k = i) where
  live := fun _ _ st => let ⟨⟨o, ho, _⟩, _⟩ := st; ⟨o, ho⟩
  frame := fun _ _ _ st hk => let ⟨⟨o, ho, r⟩, e⟩ := st; ⟨⟨o, hk it (by simp) o ho, r⟩, e⟩
  item := fun k s Q E hi st hQ => absurd st.2 (Nat.ne_of_lt hi)
  done := fun s Q E st hE => wpAny_nextOf_ascii_end hh st.1 (Array.getElem?_eq_none hx) hE
theorem turn_zipS {P : Program} {w : World} {K : PySem.W.Frag} {elts : List Expr} {kk : Nat} {tpos : Pos} {z TI TO i1 i2 : Addr} {x y : Str} {t u : Tok} (S : ZipSep2 z TI TO i1 i2 [i1] [i2]) :
    Turn P w K (.Tuple elts kk tpos) (Itzs x y) [z, TI, TO, i1, i2] z (fun i h => IsZip h z TI TO .none ∧ IsTupOf2 h TI (.ref i1) (.ref i2) ∧ (∃ a b, IsTupOf2 h TO a b) ∧ h.IsStrIter i1 AS x t i ∧ h.IsStrIter i2 AS y u i) where
  mem := by simp
  obj := fun i h st c hc => by
    obtain ⟨hz, hTI, ⟨a, b, hTO⟩, ⟨o1, e1, _, d1⟩, ⟨o2, e2, _, d2⟩⟩ := st
    have e' : c = z ∨ c = TI ∨ c = TO ∨ c = i1 ∨ c = i2 := by simpa using hc
    rcases e' with q | q | q | q | q
    · rw [q]; exact ⟨_, hz, fun v q => nomatch q⟩
    · rw [q]; exact ⟨_, hTI, fun v q => nomatch q⟩
    · rw [q]; exact ⟨_, hTO, fun v q => nomatch q⟩
    · rw [q]; exact ⟨o1, e1, fun v q => by rw [d1] at q; cases q⟩
    · rw [q]; exact ⟨o2, e2, fun v q => by rw [d2] at q; cases q⟩
  keep := fun i h h' st k => by
    obtain ⟨hz, hTI, ⟨a, b, hTO⟩, ⟨o1, e1, r1⟩, ⟨o2, e2, r2⟩⟩ := st
    exact ⟨k z (by simp) _ hz, k TI (by simp) _ hTI, ⟨a, b, k TO (by simp) _ hTO⟩, ⟨o1, k i1 (by simp) _ e1, r1⟩, ⟨o2, k i2 (by simp) _ e2, r2⟩⟩
  item := by
    intro X hP hw hK hc i pins s σ H E I hf st hg
    subst hP hw hK
    obtain ⟨hz, hTI, ⟨x0, y0, hTO⟩, h1, h2⟩ := st
    have hh : X.A.in1.handled = none := I.ok.hd hc
    have hzl : z < s.heap.objs.size := Heap.lt_size hz
    refine wpAny_pyNext_zipD2_item S (Draws.strAscii hh i1 x t) (Draws.strAscii hh i2 y u) hz hTI hTO h1 h2 hg.1 hg.2 fun v1 v2 h' tk p1 p2 z' TO' h1' h2' hT hsz hk => ?_
    obtain ⟨c, u1, hc1, rfl⟩ := p1
    obtain ⟨d, u2, hc2, rfl⟩ := p2
    refine ⟨_, rfl, wpAny_letOwnedTupleGo_zip (s := { s with heap := h', toks := tk }) z' fun h'' z'' sb => ?_⟩
    have hT2 : h''.get? s.heap.objs.size = some { cls := .type "tuple", data := .seq #[.str ⟨#[c]⟩ u1, .str ⟨#[d]⟩ u2] } := (sb.2 _ (Nat.ne_of_gt hzl)).trans hT
    have new : ObjOk X.prog X.w (upd H s.heap.objs.size (.tup [.str ⟨#[c]⟩, .str ⟨#[d]⟩])) h'' s.heap.objs.size (.tup [.str ⟨#[c]⟩, .str ⟨#[d]⟩]) :=
      ⟨by show 2 ≤ sizeLine; decide, [.str ⟨#[c]⟩ u1, .str ⟨#[d]⟩ u2], .cons ⟨u1, rfl⟩ (.cons ⟨u2, rfl⟩ .nil), ⟨_, hT2, rfl, _, rfl⟩⟩
    have I1 : Inv X pins σ (upd H s.heap.objs.size (.tup [.str ⟨#[c]⟩, .str ⟨#[d]⟩])) { s with heap := h'', toks := tk } :=
      I.turnedNew (t' := tk) (ch := [z, TI, TO, i1, i2]) (fun c o hb q => (sb.2 c (fun q' => hb (by simp [q']))).trans (hk c o (fun q' => hb (by simp [q'])) (fun q' => hb (by simp [q'])) (fun q' => hb (by simp [q'])) (fun q' => hb (by simp [q'])) q)) hf (Nat.le_refl _) new
    refine ⟨.ref s.heap.objs.size, _, I1, rfl, ⟨_, c, d, rfl, I.hok.fresh (Nat.le_refl _), rfl, hc1, hc2⟩, ⟨z'', ?_, ⟨.str ⟨#[c]⟩ u1, .str ⟨#[d]⟩ u2, ?_⟩, ?_, ?_⟩, fun c hcm => ?_⟩
    · exact (sb.2 _ S.TIz).trans (hk _ _ S.TIz S.TITO S.TIi1 S.TIi2 hTI)
    · exact (sb.2 _ S.TOz).trans TO'
    · obtain ⟨o, e, r⟩ := h1'
      exact ⟨o, (sb.2 _ S.zi1.symm).trans e, r⟩
    · obtain ⟨o, e, r⟩ := h2'
      exact ⟨o, (sb.2 _ S.zi2.symm).trans e, r⟩
    · have hlt : c < s.heap.objs.size := by
        have e' : c = z ∨ c = TI ∨ c = TO ∨ c = i1 ∨ c = i2 := by simpa using hcm
        rcases e' with q | q | q | q | q
        · rw [q]; exact hzl
        · rw [q]; exact Heap.lt_size hTI
        · rw [q]; exact Heap.lt_size hTO
        · rw [q]; obtain ⟨_, e1, _⟩ := h1; exact Heap.lt_size e1
        · rw [q]; obtain ⟨_, e2, _⟩ := h2; exact Heap.lt_size e2
      rw [upd_ne (Nat.ne_of_lt hlt)]
      exact (hf c hcm).1
  done := by
    intro X hP hw hK hc i pins s σ H E I hf st hg
    subst hP hw hK
    obtain ⟨hz, hTI, ⟨x0, y0, hTO⟩, h1, h2⟩ := st
    have hh : X.A.in1.handled = none := I.ok.hd hc
    have fin : ∀ h' tk, (∀ c o, c ≠ z → c ≠ TO → c ≠ i1 → c ≠ i2 → s.heap.get? c = some o → h'.get? c = some o) → (none : Option Value) = none ∧ Inv X pins σ H { s with heap := h', toks := tk } := fun h' tk hk => ⟨rfl, I.turnedL (t' := tk) (ch := [z, TI, TO, i1, i2]) (fun c o hb q =>
      hk c o (fun q' => hb (by simp [q'])) (fun q' => hb (by simp [q'])) (fun q' => hb (by simp [q'])) (fun q' => hb (by simp [q'])) q) hf⟩
    by_cases c1 : x.cps.size ≤ i
    · by_cases c2 : y.cps.size ≤ i
      · exact wpAny_pyNext_zipD2_end S (drawsEnd hh i1 x t i c1) (drawsEnd hh i2 y u i c2) hz hTI hTO ⟨h1, rfl⟩ ⟨h2, rfl⟩ (Nat.le_refl _) (Nat.le_refl _) (.inl rfl) fin
      · exact wpAny_pyNext_zipD2_end S (drawsEnd hh i1 x t i c1) (Draws.strAscii hh i2 y u) hz hTI hTO ⟨h1, rfl⟩ h2 (Nat.le_refl _) (Nat.le_of_not_le c2) (.inl rfl) fin
    · have c2 : y.cps.size ≤ i := hg.resolve_left c1
      exact wpAny_pyNext_zipD2_end S (Draws.strAscii hh i1 x t) (drawsEnd hh i2 y u i c2) hz hTI hTO h1 ⟨h2, rfl⟩ (Nat.le_of_not_le c1) (Nat.le_refl _) (.inr rfl) fin
  self := fun A i s Q E st h => wpAny_pyIter_zip st.1 h
def iZipS (ta : TA) : TI := fun σ H R => ta σ H fun vs H1 => ∃ x y : Str, vs = [.str x, .str y] ∧ x.cps.all (· < 128) = true ∧ y.cps.all (· < 128) = true ∧ R (Itzs x y) H1
theorem pi_zipS {X : Cx} {e e2 : Expr} {ta : TA} {p pos tpos : Pos} {elts : List Expr} {kk : Nat} (hg : L2.Gl X "zip") (hm : X.mg "zip" = none) (ha : PA X [e, e2] ta)
    (hs : starEach [e, e2] X.env = (false, eval e X.env) :: starEach [e2] X.env := by rfl) (hpl : (backTo pos (starEach [e2] X.env)).any (·.1) = false := by rfl) :
    PI X (.Tuple elts kk tpos) (.Call (.Name "zip" p) [e, e2] [] pos) (iZipS ta) := by
  refine ⟨fun pins s σ H R I h => ?_⟩
  refine Call_ (ld_blt I hg hm PyProof.Rows.boot_zip (PyProof.Rows.callWith_type1 (thn (ha.run pos pins s σ H _ I h) fun us s1 ⟨vs, H1, I1, r1, q1⟩ => ?_) hs hpl))
  obtain ⟨x, y, ex, hx, hy, q⟩ := q1
  subst ex
  cases r1 with
  | cons r rr =>
    cases rr with
    | cons r' rr =>
      cases rr
      obtain ⟨t, rfl⟩ := r
      obtain ⟨u, rfl⟩ := r'
      have fresh5 : ∀ c, c ∈ [s1.heap.objs.size + 4, s1.heap.objs.size + 2, s1.heap.objs.size + 3, s1.heap.objs.size, s1.heap.objs.size + 1] → FpOk X pins H1 c := fun c hcm => by
        have e' : c = s1.heap.objs.size + 4 ∨ c = s1.heap.objs.size + 2 ∨ c = s1.heap.objs.size + 3 ∨ c = s1.heap.objs.size ∨ c = s1.heap.objs.size + 1 := by simpa using hcm
        have hle : s1.heap.objs.size ≤ c := by
          rcases e' with z | z | z | z | z
          · rw [z]; exact Nat.le_add_right _ _
          · rw [z]; exact Nat.le_add_right _ _
          · rw [z]; exact Nat.le_add_right _ _
          · rw [z]; exact Nat.le_refl _
          · rw [z]; exact Nat.le_add_right _ _
        exact I1.fpOk hle (I1.hok.fresh hle)
      refine call_zipS hx hy fun h' hz hTI hTO h1 h2 hsz hk => wpAny_pyIter_zip hz ?_
      have I2 : Inv X pins σ H1 { s1 with heap := h' } := I1.kept (t' := s1.toks) hk
      have ne : ∀ {a b : Nat}, a ≠ b → s1.heap.objs.size + a ≠ s1.heap.objs.size + b := fun h z => h (Nat.add_left_cancel z)
      have S : ZipSep2 (s1.heap.objs.size + 4) (s1.heap.objs.size + 2) (s1.heap.objs.size + 3) s1.heap.objs.size (s1.heap.objs.size + 1) [s1.heap.objs.size] [s1.heap.objs.size + 1] :=
        { TIz := ne (by decide), TOz := ne (by decide), TITO := ne (by decide), TIi1 := ne (b := 0) (by decide), mem1 := by simp, zf1 := by simp, Tf1 := by simp, TIi2 := ne (by decide), mem2 := by simp, zf2 := by simp, Tf2 := by simp, sep1_2 := by simp, sep2_1 := by simp }
      exact ⟨s1.heap.objs.size + 4, [s1.heap.objs.size + 4, s1.heap.objs.size + 2, s1.heap.objs.size + 3, s1.heap.objs.size, s1.heap.objs.size + 1], _, _, H1, rfl, I2, turn_zipS S, ⟨hz, hTI, ⟨_, _, hTO⟩, h1, h2⟩, fresh5, q⟩
/-! ### as a mirror -/
section
variable {F : Fr} {X : Cx} {wx : WX} {σ : L2.St} {G : Gl} {W W' : Wd} {H H' : Hp} {hp hp' : Hc} {ρ : Rho}
def kZipS (xs : List D) (h : Hc) : R (List D) := match xs with
  | [.str a, .str b] => if a.all (· < 128) = true ∧ b.all (· < 128) = true then .ok ((a.zip b).map fun p => .tup [.str [p.1], .str [p.2]]) h else .bad
  | _ => .bad
def iZpS (am : AM) : IM := fun ρ h => (am ρ h).bind kZipS
theorem it_zipS {a b : List Nat} (ha : okS a) (hb : okS b) : ItOk G W H ((a.zip b).map fun p => D.tup [.str [p.1], .str [p.2]]) (Itzs ⟨a.toArray⟩ ⟨b.toArray⟩) := by
  intro W' H' l
  refine ⟨fun i d hd => ?_, fun i hi => ?_⟩
  · rw [List.getElem?_map] at hd
    cases q : (a.zip b)[i]? with
    | none => rw [q] at hd; cases hd
    | some p =>
      rw [q] at hd
      cases hd
      obtain ⟨c, e⟩ := p
      have hz := List.getElem?_zip_eq_some.mp q
      have l1 := (List.getElem?_eq_some_iff.mp hz.1).1
      have l2 := (List.getElem?_eq_some_iff.mp hz.2).1
      refine ⟨⟨by show i < a.toArray.size; simpa using l1, by show i < b.toArray.size; simpa using l2⟩, fun x H2 hy => ?_⟩
      obtain ⟨T, c', d', rfl, hT, rfl, h1, h2⟩ := hy
      have h1 : a[i]? = some c' := by simpa using h1
      have h2 : b[i]? = some d' := by simpa using h2
      rw [hz.1] at h1
      rw [hz.2] at h2
      cases h1
      cases h2
      have o1 : okS [c] := okS_sub ha fun y hy => by rw [List.mem_singleton.mp hy]; exact List.mem_of_getElem? hz.1
      have o2 : okS [e] := okS_sub hb fun y hy => by rw [List.mem_singleton.mp hy]; exact List.mem_of_getElem? hz.2
      exact ⟨W'.fzA T, ext_fz' hT, fun hp s => st_fz s hT, T, _, rfl, fz_tup, ⟨_, _, rfl, ⟨rfl, o1⟩, ⟨_, _, rfl, ⟨rfl, o2⟩, rfl⟩⟩⟩
  · rw [List.length_map, List.length_zip] at hi
    show a.toArray.size ≤ i ∨ b.toArray.size ≤ i
    rw [List.size_toArray, List.size_toArray]
    omega
theorem i_zpS {a b : Expr} {am : AM} {p pos tpos : Pos} {elts : List Expr} {kk : Nat} (hm : X.mg "zip" = none) (ha : PA X [a, b] (TrA F wx am)) (hg : L2.Gl X "zip" := by rfl) (hs : starEach [a, b] X.env = (false, eval a X.env) :: starEach [b] X.env := by rfl) (hpl : (backTo pos (starEach [b] X.env)).any (·.1) = false := by rfl) :
    PI X (.Tuple elts kk tpos) (.Call (.Name "zip" p) [a, b] [] pos) (TrI F wx (iZpS am)) :=
  PI.imp (pi_zipS hg hm ha hs hpl) fun σ H R ⟨W, ρ, hp, g, q⟩ => ⟨W, ρ, hp, g, Fin.bind q fun xs hp1 W1 vs H1 x1 s1 r1 q1 => by
    unfold kZipS at q1
    split at q1
    · rename_i l m
      split at q1
      · rename_i hc
        obtain ⟨v, r, rfl, ⟨rfl, o1⟩, v2, r2, rfl, ⟨rfl, o2⟩, rfl⟩ := r1
        exact ⟨_, _, rfl, by simpa using hc.1, by simpa using hc.2, q1 W1 _ H1 (Ext.refl _ _) s1 (it_zipS o1 o2)⟩
      · exact q1.elim
    · exact q1.elim⟩
end
end Z

/-! Z30: enumerate over a text -/
namespace Z
open PySem PySem.Spec PyProof.Rows L2
abbrev saObj (x : Str) (t : Tok) : Obj := { cls := .type "str_ascii_iterator", data := .fields #[.str x t, .int 0 0] }
theorem en_newS (x : Str) (t : Tok) (hx : x.cps.all (· < 128) = true) :
    Meets (Builtin.«enumerate.__new__» ⟨[.type "enumerate", .str x t], []⟩) (fun _ R s => R (.ok (.ret (.ref (s.heap.push (saObj x t)).objs.size)))
        { s with heap := (s.heap.push (saObj x t)).push (enObj s.heap.objs.size) }) :=
  .of_wp fun prog w A R s h => by
    obtain ⟨hp, g, d, tk, os⟩ := s
    have hsub := sub_enumerate
    wp_walk
    refine wpAny_stack_any fun st => wpAny_pure ?_
    split
    · rename_i c _ _ _ _ _
      cases (c == Value.type "enumerate")
      · wp_walk using wpAny_pyIter_ascii hx
        exact ⟨_, rfl, h⟩
      · wp_walk using wpAny_pyIter_ascii hx
        exact ⟨_, rfl, h⟩
    · wp_walk using wpAny_pyIter_ascii hx
      exact ⟨_, rfl, h⟩
section
variable {prog : Program} {w : World} {A : Around} {E : Value → Shared → Prop} {s : Shared}
theorem call_enumS {x : Str} {t : Tok} {Q : Value → Shared → Prop} (hx : x.cps.all (· < 128) = true)
    (h : ∀ h', IsEnum h' (s.heap.objs.size + 1) s.heap.objs.size 0 .none → h'.IsStrIter s.heap.objs.size AS x t 0 → h'.objs.size = s.heap.objs.size + 2 →
      (∀ b o, s.heap.get? b = some o → h'.get? b = some o) → Q (.ref (s.heap.objs.size + 1)) { s with heap := h' }) : wpAny (model prog w) A (call (.type "enumerate") [.str x t]) Q E s := by
  refine callType_new PySem.F.called_enumerate (by decide) (PySem.F.typeCall_enumerate_1 _) (PySem.F.newCall_enumerate_1 _) (fun obj => PySem.F.args_object_init_2 obj _) PySem.F.entry_enumerate_new (en_newS x t hx) ?_
  have hz : (s.heap.push (saObj x t)).objs.size = s.heap.objs.size + 1 := Heap.size_push ..
  show _ ∧ _
  rw [hz]
  have he : IsEnum ((s.heap.push (saObj x t)).push (enObj s.heap.objs.size)) (s.heap.objs.size + 1) s.heap.objs.size 0 .none := by
    have q := Heap.get?_push_size (s.heap.push (saObj x t)) (o := enObj s.heap.objs.size) rfl
    rw [hz] at q; exact q
  exact ⟨⟨_, he, rfl⟩, h _ he ⟨_, Heap.get?_push_of_some _ (Heap.get?_push_size _ rfl), rfl, rfl⟩ (by rw [Heap.size_push, hz]) fun b o x => Heap.get?_push_of_some _ (Heap.get?_push_of_some _ x)⟩
end
/-- each sign of a text with its place, in a new pair -/
def Ites (x : Str) : It :=
  ⟨fun i _ => i < x.cps.size, fun i H v H' => ∃ T c, v = .ref T ∧ H T = none ∧ H' = upd H T (.tup [.int (i : Nat), .str ⟨#[c]⟩]) ∧ x.cps[i]? = some c, fun i _ => x.cps.size ≤ i⟩
theorem turn_enumS {P : Program} {w : World} {K : PySem.W.Frag} {elts : List Expr} {kk : Nat} {tpos : Pos} (e it : Addr) (x : Str) (t : Tok) :
    Turn P w K (.Tuple elts kk tpos) (Ites x) [e, it] e (fun i h => (∃ old, IsEnum h e it ((i : Nat) : Int) old) ∧ h.IsStrIter it AS x t i ∧ e ≠ it) where
  mem := by simp
  obj := fun i h st b hb => by
    obtain ⟨⟨old, he⟩, ⟨o, ho, hc, hd⟩, _⟩ := st
    have e' : b = e ∨ b = it := by simpa using hb
    rcases e' with z | z
    · rw [z]; exact ⟨_, he, fun v q => nomatch q⟩
    · rw [z]; exact ⟨o, ho, fun v q => by rw [hd] at q; cases q⟩
  keep := fun i h h' st k => let ⟨⟨old, he⟩, ⟨o, ho, r⟩, hne⟩ := st; ⟨⟨old, k e (by simp) _ he⟩, ⟨o, k it (by simp) _ ho, r⟩, hne⟩
  item := by
    intro X hP hw hK hc i pins s σ H E I hf st hg
    subst hP hw hK
    obtain ⟨⟨old, he⟩, hit, hne⟩ := st
    have hel : e < s.heap.objs.size := Heap.lt_size he
    have hil : it < s.heap.objs.size := by obtain ⟨_, q, _⟩ := hit; exact Heap.lt_size q
    refine wpAny_pyNext_enum_itemD (Draws.strAscii (A := X.A.in1) (show X.A.in1.handled = none from I.ok.hd hc) it x t) he hit hg hne (by simp [hne]) fun y h' tk hy ho hit' hT hsz hk => ?_
    obtain ⟨c, u, hcx, rfl⟩ := hy
    refine ⟨_, rfl, wpAny_letOwnedTupleGo_enum (s := { s with heap := h', toks := tk + 1 }) ho fun h'' he' sb => ?_⟩
    refine ⟨.ref s.heap.objs.size, _, en_pair (s := s) I hf hel (show RelV (.str ⟨#[c]⟩) (.str ⟨#[c]⟩ u) from ⟨u, rfl⟩) hT sb hk, rfl, ⟨_, c, rfl, I.hok.fresh (Nat.le_refl _), rfl, hcx⟩, ⟨⟨.str ⟨#[c]⟩ u, ?_⟩, ?_, hne⟩, fun b hb => ?_⟩
    · have e1 : ((i + 1 : Nat) : Int) = (i : Int) + 1 := by omega
      rw [e1]; exact he'
    · obtain ⟨o, ho, r⟩ := hit'
      exact ⟨o, (sb.2 it (Ne.symm hne)).trans ho, r⟩
    · have hb' : b < s.heap.objs.size := by
        have e' : b = e ∨ b = it := by simpa using hb
        rcases e' with z | z
        · rw [z]; exact hel
        · rw [z]; exact hil
      rw [upd_ne (Nat.ne_of_lt hb')]
      exact (hf b hb).1
  done := by
    intro X hP hw hK hc i pins s σ H E I hf st hg
    subst hP hw hK
    obtain ⟨⟨old, he⟩, hit, hne⟩ := st
    obtain ⟨f0, f1, f2, f3, f4, f5⟩ := hf it (by simp)
    exact wpAny_pyNext_enum_endD (drawsEnd (show X.A.in1.handled = none from I.ok.hd hc) it x t i hg) he ⟨hit, rfl⟩ fun h' eb => ⟨rfl, I.turned (t' := s.toks) (fun b o hb q => eb b o hb q) f0 f1 f3 f4 f5⟩
  self := fun A i s Q E st h => let ⟨⟨_, he⟩, _⟩ := st; wpAny_pyIter_enum he h
def iEnS (ta : TA) : TI := fun σ H R => ta σ H fun vs H1 => ∃ x : Str, vs = [.str x] ∧ x.cps.all (· < 128) = true ∧ R (Ites x) H1
theorem pi_enumS {X : Cx} {e : Expr} {ta : TA} {p pos tpos : Pos} {elts : List Expr} {kk : Nat} (hg : L2.Gl X "enumerate") (hm : X.mg "enumerate" = none) (ha : PA X [e] ta) (hs : starEach [e] X.env = [(false, eval e X.env)] := by rfl) :
    PI X (.Tuple elts kk tpos) (.Call (.Name "enumerate" p) [e] [] pos) (iEnS ta) := by
  refine ⟨fun pins s σ H R I h => ?_⟩
  refine Call_ (ld_blt I hg hm boot_enumerate (PyProof.Rows.callWith_type1 (thn (ha.run pos pins s σ H _ I h) fun us s1 ⟨vs, H1, I1, r1, q1⟩ => ?_) hs rfl))
  obtain ⟨x, rfl, hx, q⟩ := q1
  obtain ⟨u, rfl, ru⟩ := r1.one
  obtain ⟨t, rfl⟩ := ru
  refine call_enumS hx fun h' he hit hsz hk => wpAny_pyIter_enum he ?_
  have I2 : Inv X pins σ H1 { s1 with heap := h' } := I1.kept (t' := s1.toks) hk
  refine ⟨s1.heap.objs.size + 1, [s1.heap.objs.size + 1, s1.heap.objs.size], _, _, H1, rfl, I2, turn_enumS (s1.heap.objs.size + 1) s1.heap.objs.size x t, ⟨⟨.none, he⟩, hit, Nat.succ_ne_self _⟩, fun b hb => ?_, q⟩
  have e' : b = s1.heap.objs.size + 1 ∨ b = s1.heap.objs.size := by simpa using hb
  have hle : s1.heap.objs.size ≤ b := by
    rcases e' with z | z
    · rw [z]; exact Nat.le_add_right _ _
    · rw [z]; exact Nat.le_refl _
  exact I1.fpOk hle (I1.hok.fresh hle)
section
variable {F : Fr} {X : Cx} {wx : WX} {σ : L2.St} {G : Gl} {W W' : Wd} {H H' : Hp} {hp hp' : Hc} {ρ : Rho}
def kEnS (xs : List D) (h : Hc) : R (List D) := match xs with
  | [.str a] => if a.all (· < 128) = true then .ok ((a.zipIdx 0).map fun p => .tup [.int p.2, .str [p.1]]) h else .bad
  | _ => .bad
def iEnSt (am : AM) : IM := fun ρ h => (am ρ h).bind kEnS
theorem it_enumS {a : List Nat} (ha : okS a) : ItOk G W H ((a.zipIdx 0).map fun p => D.tup [.int p.2, .str [p.1]]) (Ites ⟨a.toArray⟩) := by
  intro W' H' l
  refine ⟨fun i d hd => ?_, fun i hi => ?_⟩
  · rw [List.getElem?_map, List.getElem?_zipIdx] at hd
    cases q : a[i]? with
    | none => rw [q] at hd; cases hd
    | some c =>
      rw [q] at hd
      cases hd
      have l1 := (List.getElem?_eq_some_iff.mp q).1
      refine ⟨by show i < a.toArray.size; simpa using l1, fun x H2 hy => ?_⟩
      obtain ⟨T, c', rfl, hT, rfl, h1⟩ := hy
      have h1 : a[i]? = some c' := by simpa using h1
      rw [q] at h1
      cases h1
      have o1 : okS [c] := okS_sub ha fun y hy => by rw [List.mem_singleton.mp hy]; exact List.mem_of_getElem? q
      refine ⟨W'.fzA T, ext_fz' hT, fun hp s => st_fz s hT, T, _, rfl, fz_tup, ⟨_, _, rfl, ?_, ⟨_, _, rfl, ⟨rfl, o1⟩, rfl⟩⟩⟩
      show V.int _ = V.int _
      rw [Nat.zero_add]
  · rw [List.length_map, List.length_zipIdx] at hi
    show a.toArray.size ≤ i
    rw [List.size_toArray]
    exact hi
theorem i_enS {a : Expr} {am : AM} {p pos tpos : Pos} {elts : List Expr} {kk : Nat} (hm : X.mg "enumerate" = none) (ha : PA X [a] (TrA F wx am)) (hg : L2.Gl X "enumerate" := by rfl) (hs : starEach [a] X.env = [(false, eval a X.env)] := by rfl) :
    PI X (.Tuple elts kk tpos) (.Call (.Name "enumerate" p) [a] [] pos) (TrI F wx (iEnSt am)) :=
  PI.imp (pi_enumS hg hm ha hs) fun σ H R ⟨W, ρ, hp, g, q⟩ => ⟨W, ρ, hp, g, Fin.bind q fun xs hp1 W1 vs H1 x1 s1 r1 q1 => by
    unfold kEnS at q1
    split at q1
    · split at q1
      · rename_i hc
        obtain ⟨v, r, rfl, ⟨rfl, o1⟩, rfl⟩ := r1
        exact ⟨_, rfl, by simpa using hc, q1 W1 _ H1 (Ext.refl _ _) s1 (it_enumS o1)⟩
      · exact q1.elim
    · exact q1.elim⟩
end
end Z

namespace Z
open PySem PySem.Spec PyProof.Rows L2
/-! the text, what the head tells of it -/
def top (i : Nat) : Stmt := PySem.Challenge.pw_zipstack_k13_numbers_that_tell_if_a_text.main.body.getD i (.Pass ⟨0, 0, 0, 0⟩)
def subE : Nat → Option Bool := fun n => match n with
  | 1 => some false
  | 2 => some true
  | _ => none
def subE_BitError : Nat → Option Bool := fun n => match n with
  | 1 => some true
  | 2 => some false
  | _ => none
def lamTab : Nat → Option (Arguments × Expr × Scope × Str) := fun i => match i with
  | 0 => lamOf ("_law_plain" ++ ".<locals>." ++ "<lambda>") ((kidE 4 (asgV ((defBody (top 45)).getD 6 (top 0)))))
  | 1 => lamOf ("_law_plain" ++ ".<locals>." ++ "<lambda>") ((kidE 3 (asgV ((defBody (top 45)).getD 6 (top 0)))))
  | 2 => lamOf ("_law_plain" ++ ".<locals>." ++ "<lambda>") ((kidE 2 (asgV ((defBody (top 45)).getD 6 (top 0)))))
  | 3 => lamOf ("_law_plain" ++ ".<locals>." ++ "<lambda>") ((kidE 1 (asgV ((defBody (top 45)).getD 6 (top 0)))))
  | 4 => lamOf ("_law_plain" ++ ".<locals>." ++ "<lambda>") ((kidE 0 (asgV ((defBody (top 45)).getD 6 (top 0)))))
  | 5 => lamOf ("_law_plain" ++ ".<locals>." ++ "<lambda>") ((kidE 4 (kidE 1 (asgV ((defBody (top 45)).getD 7 (top 0))))))
  | 6 => lamOf ("_law_plain" ++ ".<locals>." ++ "<lambda>") ((kidE 3 (kidE 1 (asgV ((defBody (top 45)).getD 7 (top 0))))))
  | 7 => lamOf ("_law_plain" ++ ".<locals>." ++ "<lambda>") ((kidE 2 (kidE 1 (asgV ((defBody (top 45)).getD 7 (top 0))))))
  | 8 => lamOf ("_law_plain" ++ ".<locals>." ++ "<lambda>") ((kidE 1 (kidE 1 (asgV ((defBody (top 45)).getD 7 (top 0))))))
  | 9 => lamOf ("_law_plain" ++ ".<locals>." ++ "<lambda>") ((kidE 0 (kidE 1 (asgV ((defBody (top 45)).getD 7 (top 0))))))
  | 10 => lamOf ("_law_plain" ++ ".<locals>." ++ "<lambda>") ((kidE 4 (kidE 1 (asgV ((defBody (top 45)).getD 8 (top 0))))))
  | 11 => lamOf ("_law_plain" ++ ".<locals>." ++ "<lambda>") ((kidE 3 (kidE 1 (asgV ((defBody (top 45)).getD 8 (top 0))))))
  | 12 => lamOf ("_law_plain" ++ ".<locals>." ++ "<lambda>") ((kidE 2 (kidE 1 (asgV ((defBody (top 45)).getD 8 (top 0))))))
  | 13 => lamOf ("_law_plain" ++ ".<locals>." ++ "<lambda>") ((kidE 1 (kidE 1 (asgV ((defBody (top 45)).getD 8 (top 0))))))
  | 14 => lamOf ("_law_plain" ++ ".<locals>." ++ "<lambda>") ((kidE 0 (kidE 1 (asgV ((defBody (top 45)).getD 8 (top 0))))))
  | 15 => lamOf ("_law_plain" ++ ".<locals>." ++ "<lambda>") ((kidE 2 (kidE 1 (asgV ((defBody (top 45)).getD 9 (top 0))))))
  | 16 => lamOf ("_law_plain" ++ ".<locals>." ++ "<lambda>") ((kidE 1 (kidE 1 (asgV ((defBody (top 45)).getD 9 (top 0))))))
  | 17 => lamOf ("_law_plain" ++ ".<locals>." ++ "<lambda>") ((kidE 0 (kidE 1 (asgV ((defBody (top 45)).getD 9 (top 0))))))
  | _ => none
theorem lamTab_in {p p2 : Arguments} {b b2 : Expr} {s s2 : Scope} {q q2 : Str} (h : some (p, b, s, q) = some (p2, b2, s2, q2)) : p = p2 ∧ b = b2 ∧ s = s2 ∧ q = q2 := by cases h; exact ⟨rfl, rfl, rfl, rfl⟩
structure Fx (P : Program) (w : World) (K : PySem.W.Frag) (mg : Str → Option Value) (base : Heap) (G : Gl) : Prop where
  hK : G.K = K
  d_check_bits : DefTab K mg base G "check_bits" (top 6) ("check_bits" ++ ".<locals>." ++ "<genexpr>")
  d_told_number : DefAt K mg "told_number" (top 7)
  d_number_in : DefAt K mg "number_in" (top 8)
  d_check_eights : DefTab K mg base G "check_eights" (top 11) ("check_eights" ++ ".<locals>." ++ "<genexpr>")
  d_plain_sum : DefAt K mg "plain_sum" (top 12)
  d_two_sums : DefAt K mg "two_sums" (top 13)
  d_joined_sums : DefAt K mg "joined_sums" (top 14)
  d_changed_sums : DefAt K mg "changed_sums" (top 15)
  d_parity : DefAt K mg "parity" (top 16)
  d_check_summed : DefAt K mg "check_summed" (top 17)
  d_check_by : DefAt K mg "check_by" (top 18)
  d_rest : DefAt K mg "rest" (top 19)
  d_without : DefAt K mg "without" (top 20)
  d_with_rest : DefAt K mg "with_rest" (top 21)
  d_is_right : DefAt K mg "is_right" (top 22)
  d_rest_of_sum : DefAt K mg "rest_of_sum" (top 23)
  d_slips_unseen : DefAt K mg "slips_unseen" (top 24)
  d_rest_alone : DefAt K mg "rest_alone" (top 25)
  d_some_places : DefAt K mg "some_places" (top 26)
  d_longer : DefAt K mg "longer" (top 27)
  d_one_slip : DefAt K mg "one_slip" (top 28)
  d_round_of : DefAt K mg "round_of" (top 29)
  d_told_rest : DefAt K mg "told_rest" (top 30)
  d_eights_of : DefAt K mg "eights_of" (top 31)
  d__law_dice : DefAt K mg "_law_dice" (top 33)
  d__law_roll : DefAt K mg "_law_roll" (top 34)
  d__law_rounds : DefAt K mg "_law_rounds" (top 35)
  d__law_told : DefAt K mg "_law_told" (top 36)
  d__law_power : DefAt K mg "_law_power" (top 37)
  d__law_bits : DefAt K mg "_law_bits" (top 38)
  d__law_xor : DefAt K mg "_law_xor" (top 39)
  d__law_rest : DefAt K mg "_law_rest" (top 40)
  d__law_whole : DefAt K mg "_law_whole" (top 41)
  d__law_two : DefAt K mg "_law_two" (top 42)
  d__law_sets : DefAt K mg "_law_sets" (top 43)
  d__law_turn : DefAt K mg "_law_turn" (top 44)
  d__law_plain : DefTab K mg base G "_law_plain" (top 45) ("_law_plain" ++ ".<locals>." ++ "<lambda>")
  d_law : DefTab K mg base G "law" (top 46) ("law" ++ ".<locals>." ++ "<lambda>")
  f_abs : mg "abs" = none
  f_any : mg "any" = none
  f_enumerate : mg "enumerate" = none
  f_int : mg "int" = none
  f_len : mg "len" = none
  f_list : mg "list" = none
  f_max : mg "max" = none
  f_range : mg "range" = none
  f_str : mg "str" = none
  f_sum : mg "sum" = none
  f_tuple : mg "tuple" = none
  f_zip : mg "zip" = none
  c_MOST_BITS_HELD : ∃ u, mg "MOST_BITS_HELD" = some u ∧ RelV (.int 4000) u
  c_MOST_SUMMED : ∃ u, mg "MOST_SUMMED" = some u ∧ RelV (.int 400) u
  x_BitError : ExZ K mg G 1 "BitError"
  x_SumError : ExZ K mg G 2 "SumError"
  lam : G.lam = lamTab
  sub : ∀ n b, subE n = some b → PySem.W.exmOne K (.ref (G.ca n)) (.ref (G.ca 2)) = some b
  sub_BitError : ∀ n b, subE_BitError n = some b → PySem.W.exmOne K (.ref (G.ca n)) (.ref (G.ca 1)) = some b
theorem sc__law_told : FnScope ["what"] ["what"] (defScope (top 36)) := ⟨rfl, rfl, rfl, by decide +kernel, rfl, by decide +kernel, by decide +kernel⟩
theorem told_z {X : Cx} {k : Nat} {P : Program} {w : World} {K : PySem.W.Frag} {mg : Str → Option Value} {base : Heap} {G : Gl} (fx : Fx P w K mg base G) (eK : X.K = K) (eg : X.mg = mg) : ToldZ X k "_law_told" (G.ca 2) [83, 117, 109, 69, 114, 114, 111, 114] :=
  told_of (a := "what") (e := "SumError") fx.d__law_told eK eg rfl (fun _ _ _ _ _ _ us hl => match us, hl with | [_], _ => rfl) sc__law_told (.inl rfl) rfl fx.x_SumError.gm (by decide) (by decide) (by decide)

section
variable {P : Program} {w : World} {K : PySem.W.Frag} {mg : Str → Option Value} {base : Heap} {G : Gl}
/-! check_bits -/
def b_check_bits : SM :=
  (sIf (tOrM (tB1 (eBin opGt (eBi bLen (aCons (eLook 0) aNil)) (eC (.int 4000)))) (tB1 (eAny (.n 1) [1] (iOf (eVar 0)) tYesM (eBin opNotIn (eLook 1) (eC (.str [48, 49])))))) (sRaise 1) sNx)
def m_check_bits : FM := mkF 2 b_check_bits
theorem m_check_bits_ap (a0 : D) (h : Hc) : m_check_bits [a0] h = (b_check_bits [.v a0, .u] h).toR := id rfl
theorem sc_check_bits : FnScope ["text", "sign"] ["text"] (defScope (top 6)) := ⟨rfl, rfl, rfl, by decide +kernel, rfl, by decide +kernel, by decide +kernel⟩
theorem z_check_bits (fx : Fx P w K mg base G) : FnZ P w K mg base G 2 "check_bits" 1 m_check_bits := by
  obtain ⟨f, fd, c0, P0, F, gm, hc0, TB, tab, uni⟩ := fx.d_check_bits
  have hK := fx.hK
  rw [show m_check_bits = mkF (["text", "sign"] : List Str).length b_check_bits from rfl]
  refine ⟨⟨f, fd, _, rfl, fn_ok (k := 1) F sc_check_bits (fun W c A outer s H E hcode hr => ?_), gm, F.kp, F.bindsN fun _ _ _ _ _ _ us hl => match us, hl with | [_], _ => rfl⟩⟩
  obtain rfl := same_code hc0 hcode
  have hN : List.Nodup (["text", "sign"] : List Str) := by decide +kernel
  exact (ss_one (s_if (PW.pt (w_or (t_cmp o_gt (s_cmp _ _) (toB (e_bi call_len (s_len hK) fx.f_len (by kernel_rfl) (ab_cons (b_look (i := 0)) ab_nil))) (toB (e_gint fx.c_MOST_BITS_HELD))) (w_or1 (t_val (e_any (k := 0) (own := [("sign", 1)]) ⟨hr.mono (by omega), TB, rfl, tab, uni, gx_by (by kernel_rfl), hN, rfl, (i_of hK (e_var (i := 0))), fun _ => rfl, fun _ _ _ _ _ _ _ hr3 => (g_name hN), fun _ _ _ _ _ _ _ hr3 => t_yes, fun _ _ _ _ _ _ _ hr3 => (e_cmp (oNotIn hr3) (s_notIn hK) (b_look (i := 1)) (toB (e_str (l := [48, 49]))))⟩ fx.f_any))))) (ss_one (s_raise rfl takes_fn (mk_ex fx.x_BitError))) ss_nil))
/-! told_number -/
def b_told_number_0 : SM :=
  (sKl [3] (sPar 2 0 (vE (eBin opAdd (eFmt (eBin opMod (eLook 0) (eC (.int 2)))) (eLook 2))) (vE (eBin opDiv (eLook 0) (eC (.int 2))))))
def b_told_number : SM :=
  (sSeq (sIf (tOrM (tNotM (tB1 (eChain opLe opLe (eC (.int 0)) (eLook 1) (eC (.int 40))))) (tB1 (eBin opLt (eLook 0) (eC (.int 0))))) (sRaise 1) sNx)
    (sSeq (sSet 2 (eC (.str [])))
    (sSeq (sFor (.n 3) (iR1 (aCons (eVar 1) aNil)) b_told_number_0)
    (sSeq (sIf (tB1 (eBin opNe (eLook 0) (eC (.int 0)))) (sRaise 1) sNx)
    (sRet (eVar 2))))))
def m_told_number : FM := mkF 4 b_told_number
theorem m_told_number_ap (a0 : D) (a1 : D) (h : Hc) : m_told_number [a0, a1] h = (b_told_number [.v a0, .v a1, .u, .u] h).toR := id rfl
theorem sc_told_number : FnScope ["number", "many", "found", "turn"] ["number", "many"] (defScope (top 7)) := ⟨rfl, rfl, rfl, by decide +kernel, rfl, by decide +kernel, by decide +kernel⟩
theorem z_told_number (fx : Fx P w K mg base G) : FnZ P w K mg base G 1 "told_number" 2 m_told_number := by
  obtain ⟨f, fd, F, gm⟩ := fx.d_told_number
  have hK := fx.hK
  rw [show m_told_number = mkF (["number", "many", "found", "turn"] : List Str).length b_told_number from rfl]
  refine ⟨⟨f, fd, _, rfl, fn_ok (k := 0) F sc_told_number (fun W c A outer s H E hcode hr => ?_), gm, F.kp, F.bindsN fun _ _ _ _ _ _ us hl => match us, hl with | [_, _], _ => rfl⟩⟩
  have hN : List.Nodup (["number", "many", "found", "turn"] : List Str) := by decide +kernel
  exact (ss_cons (s_if (PW.pt (w_or (t_not (t_chain o_le o_le (s_cmp _ _) (s_cmp _ _) (toB e_int) (b_look (i := 1)) (toB e_int))) (w_or1 (t_cmp o_lt (s_cmp _ _) (b_look (i := 0)) (toB e_int))))) (ss_one (s_raise rfl takes_fn (mk_ex fx.x_BitError))) ss_nil)
    (ss_cons (s_set (i := 2) hN (e_str (l := [])))
    (ss_cons (s_for owns_fn rfl (g_name hN) (i_r1 fx.f_range (a_cons (e_var (i := 1)) a_nil)) (ss_kl (ss_one (s_par (i := 2) (j := 0) rfl hN (v_e (e_binB op_addAll (s_add hK) (toB (e_joined1 (e_fmt (e_binB op_modN s_mod (b_look (i := 0)) (toB e_int))))) (b_look (i := 2)))) (v_e (e_binB op_fdivN s_div (b_look (i := 0)) (toB e_int)))))))
    (ss_cons (s_if (t_cmp (oNe hr) (s_ne hK) (b_look (i := 0)) (toB e_int)) (ss_one (s_raise rfl takes_fn (mk_ex fx.x_BitError))) ss_nil)
    (ss_one (s_ret (e_var (i := 2))))))))
/-! number_in -/
def b_number_in_0 : SM :=
  (sKl [2] (sSet 1 (eBin opAdd (eBin opMul (eC (.int 2)) (eLook 1)) (eBi bInt (aCons (eLook 2) aNil)))))
def b_number_in : SM :=
  (sSeq (sDo (eCall 1 m_check_bits (aCons (eVar 0) aNil)))
    (sSeq (sSet 1 (eC (.int 0)))
    (sSeq (sFor (.n 2) (iOf (eVar 0)) b_number_in_0)
    (sRet (eVar 1)))))
def m_number_in : FM := mkF 3 b_number_in
theorem m_number_in_ap (a0 : D) (h : Hc) : m_number_in [a0] h = (b_number_in [.v a0, .u, .u] h).toR := id rfl
theorem sc_number_in : FnScope ["text", "found", "sign"] ["text"] (defScope (top 8)) := ⟨rfl, rfl, rfl, by decide +kernel, rfl, by decide +kernel, by decide +kernel⟩
theorem z_number_in (fx : Fx P w K mg base G) : FnZ P w K mg base G 3 "number_in" 1 m_number_in := by
  obtain ⟨f, fd, F, gm⟩ := fx.d_number_in
  have hK := fx.hK
  rw [show m_number_in = mkF (["text", "found", "sign"] : List Str).length b_number_in from rfl]
  refine ⟨⟨f, fd, _, rfl, fn_ok (k := 2) F sc_number_in (fun W c A outer s H E hcode hr => ?_), gm, F.kp, F.bindsN fun _ _ _ _ _ _ us hl => match us, hl with | [_], _ => rfl⟩⟩
  have hN : List.Nodup (["text", "found", "sign"] : List Str) := by decide +kernel
  exact (ss_cons (s_do (e_call (z_check_bits fx) hr takes_fn (a_cons (e_var (i := 0)) a_nil) (hk := by omega)))
    (ss_cons (s_set (i := 1) hN e_int)
    (ss_cons (s_for owns_fn rfl (g_name hN) (i_of hK (e_var (i := 0))) (ss_kl (ss_one (s_set (i := 1) hN (e_binB op_addAll (s_add hK) (toB (e_binB op_mulAll s_mul (toB e_int) (b_look (i := 1)))) (toB (e_biT call_intAll s_int fx.f_int (by kernel_rfl) (ab_cons (b_look (i := 2)) ab_nil))))))))
    (ss_one (s_ret (e_var (i := 1)))))))
/-! check_eights -/
def b_check_eights : SM :=
  (sIf (tOrM (tB1 (eBin opGt (eBi bLen (aCons (eLook 0) aNil)) (eC (.int 400)))) (tB1 (eAny (.n 1) [1] (iOf (eVar 0)) tYesM (eNot (eChain opLe opLt (eC (.int 0)) (eLook 1) (eC (.int 256))))))) (sRaise 2) sNx)
def m_check_eights : FM := mkF 2 b_check_eights
theorem m_check_eights_ap (a0 : D) (h : Hc) : m_check_eights [a0] h = (b_check_eights [.v a0, .u] h).toR := id rfl
theorem sc_check_eights : FnScope ["numbers", "number"] ["numbers"] (defScope (top 11)) := ⟨rfl, rfl, rfl, by decide +kernel, rfl, by decide +kernel, by decide +kernel⟩
theorem z_check_eights (fx : Fx P w K mg base G) : FnZ P w K mg base G 2 "check_eights" 1 m_check_eights := by
  obtain ⟨f, fd, c0, P0, F, gm, hc0, TB, tab, uni⟩ := fx.d_check_eights
  have hK := fx.hK
  rw [show m_check_eights = mkF (["numbers", "number"] : List Str).length b_check_eights from rfl]
  refine ⟨⟨f, fd, _, rfl, fn_ok (k := 1) F sc_check_eights (fun W c A outer s H E hcode hr => ?_), gm, F.kp, F.bindsN fun _ _ _ _ _ _ us hl => match us, hl with | [_], _ => rfl⟩⟩
  obtain rfl := same_code hc0 hcode
  have hN : List.Nodup (["numbers", "number"] : List Str) := by decide +kernel
  exact (ss_one (s_if (PW.pt (w_or (t_cmp o_gt (s_cmp _ _) (toB (e_bi call_len (s_len hK) fx.f_len (by kernel_rfl) (ab_cons (b_look (i := 0)) ab_nil))) (toB (e_gint fx.c_MOST_SUMMED))) (w_or1 (t_val (e_any (k := 0) (own := [("number", 1)]) ⟨hr.mono (by omega), TB, rfl, tab, uni, gx_by (by kernel_rfl), hN, rfl, (i_of hK (e_var (i := 0))), fun _ => rfl, fun _ _ _ _ _ _ _ hr3 => (g_name hN), fun _ _ _ _ _ _ _ hr3 => t_yes, fun _ _ _ _ _ _ _ hr3 => (e_not (e_chain o_le o_lt (s_cmp _ _) (s_cmp _ _) (toB e_int) (b_look (i := 1)) (toB e_int)))⟩ fx.f_any))))) (ss_one (s_raise rfl takes_fn (mk_ex fx.x_SumError))) ss_nil))
/-! plain_sum -/
def b_plain_sum : SM :=
  (sSeq (sDo (eCall 1 m_check_eights (aCons (eVar 0) aNil)))
    (sSeq (sIf (tB1 (eBin opLt (eLook 1) (eC (.int 1)))) (sRaise 2) sNx)
    (sRet (eBin opMod (eBi bSumA (aCons (eLook 0) aNil)) (eLook 1)))))
def m_plain_sum : FM := mkF 2 b_plain_sum
theorem m_plain_sum_ap (a0 : D) (a1 : D) (h : Hc) : m_plain_sum [a0, a1] h = (b_plain_sum [.v a0, .v a1] h).toR := id rfl
theorem sc_plain_sum : FnScope ["numbers", "size"] ["numbers", "size"] (defScope (top 12)) := ⟨rfl, rfl, rfl, by decide +kernel, rfl, by decide +kernel, by decide +kernel⟩
theorem z_plain_sum (fx : Fx P w K mg base G) : FnZ P w K mg base G 3 "plain_sum" 2 m_plain_sum := by
  obtain ⟨f, fd, F, gm⟩ := fx.d_plain_sum
  have hK := fx.hK
  rw [show m_plain_sum = mkF (["numbers", "size"] : List Str).length b_plain_sum from rfl]
  refine ⟨⟨f, fd, _, rfl, fn_ok (k := 2) F sc_plain_sum (fun W c A outer s H E hcode hr => ?_), gm, F.kp, F.bindsN fun _ _ _ _ _ _ us hl => match us, hl with | [_, _], _ => rfl⟩⟩
  have hN : List.Nodup (["numbers", "size"] : List Str) := by decide +kernel
  exact (ss_cons (s_do (e_call (z_check_eights fx) hr takes_fn (a_cons (e_var (i := 0)) a_nil) (hk := by omega)))
    (ss_cons (s_if (t_cmp o_lt (s_cmp _ _) (b_look (i := 1)) (toB e_int)) (ss_one (s_raise rfl takes_fn (mk_ex fx.x_SumError))) ss_nil)
    (ss_one (s_ret (e_binB op_modN s_mod (toB (e_bi (cr_sumA rfl) (s_sumA hK) fx.f_sum (by kernel_rfl) (ab_cons (b_look (i := 0)) ab_nil))) (b_look (i := 1)))))))
/-! two_sums -/
def b_two_sums_0 : SM :=
  (sKl [4] (sSeq (sSet 2 (eBin opMod (eBin opAdd (eLook 2) (eLook 4)) (eLook 1)))
    (sSet 3 (eBin opMod (eBin opAdd (eLook 3) (eLook 2)) (eLook 1)))))
def b_two_sums : SM :=
  (sSeq (sDo (eCall 1 m_check_eights (aCons (eVar 0) aNil)))
    (sSeq (sIf (tB1 (eBin opLt (eLook 1) (eC (.int 1)))) (sRaise 2) sNx)
    (sSeq (sPar 2 3 (vE (eBin opMod (eC (.int 1)) (eLook 1))) (vE (eC (.int 0))))
    (sSeq (sFor (.n 4) (iOf (eVar 0)) b_two_sums_0)
    (sRet (eTup (aCons (eVar 2) (aCons (eVar 3) aNil))))))))
def m_two_sums : FM := mkF 5 b_two_sums
theorem m_two_sums_ap (a0 : D) (a1 : D) (h : Hc) : m_two_sums [a0, a1] h = (b_two_sums [.v a0, .v a1, .u, .u, .u] h).toR := id rfl
theorem sc_two_sums : FnScope ["numbers", "size", "one", "other", "number"] ["numbers", "size"] (defScope (top 13)) := ⟨rfl, rfl, rfl, by decide +kernel, rfl, by decide +kernel, by decide +kernel⟩
theorem z_two_sums (fx : Fx P w K mg base G) : FnZ P w K mg base G 3 "two_sums" 2 m_two_sums := by
  obtain ⟨f, fd, F, gm⟩ := fx.d_two_sums
  have hK := fx.hK
  rw [show m_two_sums = mkF (["numbers", "size", "one", "other", "number"] : List Str).length b_two_sums from rfl]
  refine ⟨⟨f, fd, _, rfl, fn_ok (k := 2) F sc_two_sums (fun W c A outer s H E hcode hr => ?_), gm, F.kp, F.bindsN fun _ _ _ _ _ _ us hl => match us, hl with | [_, _], _ => rfl⟩⟩
  have hN : List.Nodup (["numbers", "size", "one", "other", "number"] : List Str) := by decide +kernel
  exact (ss_cons (s_do (e_call (z_check_eights fx) hr takes_fn (a_cons (e_var (i := 0)) a_nil) (hk := by omega)))
    (ss_cons (s_if (t_cmp o_lt (s_cmp _ _) (b_look (i := 1)) (toB e_int)) (ss_one (s_raise rfl takes_fn (mk_ex fx.x_SumError))) ss_nil)
    (ss_cons (s_par (i := 2) (j := 3) rfl hN (v_e (e_binB op_modN s_mod (toB e_int) (b_look (i := 1)))) (v_e e_int))
    (ss_cons (s_for owns_fn rfl (g_name hN) (i_of hK (e_var (i := 0))) (ss_kl (ss_cons (s_set (i := 2) hN (e_binB op_modN s_mod (toB (e_binB op_addAll (s_add hK) (b_look (i := 2)) (b_look (i := 4)))) (b_look (i := 1))))
    (ss_one (s_set (i := 3) hN (e_binB op_modN s_mod (toB (e_binB op_addAll (s_add hK) (b_look (i := 3)) (b_look (i := 2)))) (b_look (i := 1))))))))
    (ss_one (s_ret (e_tup (a_cons (e_var (i := 2)) (a_cons (e_var (i := 3)) a_nil)))))))))
/-! joined_sums -/
def b_joined_sums : SM :=
  (sSeq (sIf (tOrM (tB1 (eBin opLt (eLook 3) (eC (.int 1)))) (tB1 (eBin opLt (eLook 2) (eC (.int 0))))) (sRaise 2) sNx)
    (sSeq (sSet 4 (eBin opMod (eBin opSub (eBin opAdd (eBin opIx (eLook 0) (eC (.int 0))) (eBin opIx (eLook 1) (eC (.int 0)))) (eC (.int 1))) (eLook 3)))
    (sRet (eTup (aCons (eVar 4) (aCons (eBin opMod (eBin opAdd (eBin opAdd (eBin opIx (eLook 0) (eC (.int 1))) (eBin opIx (eLook 1) (eC (.int 1)))) (eBin opMul (eLook 2) (eBin opSub (eBin opIx (eLook 0) (eC (.int 0))) (eC (.int 1))))) (eLook 3)) aNil))))))
def m_joined_sums : FM := mkF 5 b_joined_sums
theorem m_joined_sums_ap (a0 : D) (a1 : D) (a2 : D) (a3 : D) (h : Hc) : m_joined_sums [a0, a1, a2, a3] h = (b_joined_sums [.v a0, .v a1, .v a2, .v a3, .u] h).toR := id rfl
theorem sc_joined_sums : FnScope ["first", "second", "many", "size", "one"] ["first", "second", "many", "size"] (defScope (top 14)) := ⟨rfl, rfl, rfl, by decide +kernel, rfl, by decide +kernel, by decide +kernel⟩
theorem z_joined_sums (fx : Fx P w K mg base G) : FnZ P w K mg base G 1 "joined_sums" 4 m_joined_sums := by
  obtain ⟨f, fd, F, gm⟩ := fx.d_joined_sums
  have hK := fx.hK
  rw [show m_joined_sums = mkF (["first", "second", "many", "size", "one"] : List Str).length b_joined_sums from rfl]
  refine ⟨⟨f, fd, _, rfl, fn_ok (k := 0) F sc_joined_sums (fun W c A outer s H E hcode hr => ?_), gm, F.kp, F.bindsN fun _ _ _ _ _ _ us hl => match us, hl with | [_, _, _, _], _ => rfl⟩⟩
  have hN : List.Nodup (["first", "second", "many", "size", "one"] : List Str) := by decide +kernel
  exact (ss_cons (s_if (PW.pt (w_or (t_cmp o_lt (s_cmp _ _) (b_look (i := 3)) (toB e_int)) (w_or1 (t_cmp o_lt (s_cmp _ _) (b_look (i := 2)) (toB e_int))))) (ss_one (s_raise rfl takes_fn (mk_ex fx.x_SumError))) ss_nil)
    (ss_cons (s_set (i := 4) hN (e_binB op_modN s_mod (toB (e_binB op_sub s_sub (toB (e_binB op_addAll (s_add hK) (toB (e_ix hK (b_look (i := 0)) e_int)) (toB (e_ix hK (b_look (i := 1)) e_int)))) (toB e_int))) (b_look (i := 3))))
    (ss_one (s_ret (e_tup (a_cons (e_var (i := 4)) (a_cons (e_binB op_modN s_mod (toB (e_binB op_addAll (s_add hK) (toB (e_binB op_addAll (s_add hK) (toB (e_ix hK (b_look (i := 0)) e_int)) (toB (e_ix hK (b_look (i := 1)) e_int)))) (toB (e_binB op_mulAll s_mul (b_look (i := 2)) (toB (e_binB op_sub s_sub (toB (e_ix hK (b_look (i := 0)) e_int)) (toB e_int))))))) (b_look (i := 3))) a_nil)))))))
/-! changed_sums -/
def b_changed_sums : SM :=
  (sSeq (sIf (tOrM (tNotM (tB1 (eChain opLe opLt (eC (.int 0)) (eLook 2) (eLook 1)))) (tB1 (eBin opLt (eLook 5) (eC (.int 1))))) (sRaise 2) sNx)
    (sSeq (sSet 6 (eBin opSub (eLook 4) (eLook 3)))
    (sRet (eTup (aCons (eBin opMod (eBin opAdd (eBin opIx (eLook 0) (eC (.int 0))) (eLook 6)) (eLook 5)) (aCons (eBin opMod (eBin opAdd (eBin opIx (eLook 0) (eC (.int 1))) (eBin opMul (eBin opSub (eLook 1) (eLook 2)) (eLook 6))) (eLook 5)) aNil))))))
def m_changed_sums : FM := mkF 7 b_changed_sums
theorem m_changed_sums_ap (a0 : D) (a1 : D) (a2 : D) (a3 : D) (a4 : D) (a5 : D) (h : Hc) : m_changed_sums [a0, a1, a2, a3, a4, a5] h = (b_changed_sums [.v a0, .v a1, .v a2, .v a3, .v a4, .v a5, .u] h).toR := id rfl
theorem sc_changed_sums : FnScope ["sums", "many", "place", "old", "new", "size", "gap"] ["sums", "many", "place", "old", "new", "size"] (defScope (top 15)) := ⟨rfl, rfl, rfl, by decide +kernel, rfl, by decide +kernel, by decide +kernel⟩
theorem z_changed_sums (fx : Fx P w K mg base G) : FnZ P w K mg base G 1 "changed_sums" 6 m_changed_sums := by
  obtain ⟨f, fd, F, gm⟩ := fx.d_changed_sums
  have hK := fx.hK
  rw [show m_changed_sums = mkF (["sums", "many", "place", "old", "new", "size", "gap"] : List Str).length b_changed_sums from rfl]
  refine ⟨⟨f, fd, _, rfl, fn_ok (k := 0) F sc_changed_sums (fun W c A outer s H E hcode hr => ?_), gm, F.kp, F.bindsN fun _ _ _ _ _ _ us hl => match us, hl with | [_, _, _, _, _, _], _ => rfl⟩⟩
  have hN : List.Nodup (["sums", "many", "place", "old", "new", "size", "gap"] : List Str) := by decide +kernel
  exact (ss_cons (s_if (PW.pt (w_or (t_not (t_chain o_le o_lt (s_cmp _ _) (s_cmp _ _) (toB e_int) (b_look (i := 2)) (b_look (i := 1)))) (w_or1 (t_cmp o_lt (s_cmp _ _) (b_look (i := 5)) (toB e_int))))) (ss_one (s_raise rfl takes_fn (mk_ex fx.x_SumError))) ss_nil)
    (ss_cons (s_set (i := 6) hN (e_binB op_sub s_sub (b_look (i := 4)) (b_look (i := 3))))
    (ss_one (s_ret (e_tup (a_cons (e_binB op_modN s_mod (toB (e_binB op_addAll (s_add hK) (toB (e_ix hK (b_look (i := 0)) e_int)) (b_look (i := 6)))) (b_look (i := 5))) (a_cons (e_binB op_modN s_mod (toB (e_binB op_addAll (s_add hK) (toB (e_ix hK (b_look (i := 0)) e_int)) (toB (e_binB op_mulAll s_mul (toB (e_binB op_sub s_sub (b_look (i := 1)) (b_look (i := 2)))) (b_look (i := 6)))))) (b_look (i := 5))) a_nil)))))))
theorem zN_check_bits (fx : Fx P w K mg base G) : FnZN P w K mg base G 2 "check_bits" 1 m_check_bits := by
  obtain ⟨f, fd, c0, P0, F, gm, hc0, TB, tab, uni⟩ := fx.d_check_bits
  have hK := fx.hK
  rw [show m_check_bits = mkF (["text", "sign"] : List Str).length b_check_bits from rfl]
  refine ⟨⟨f, fd, _, rfl, fn_okN (k := 1) F sc_check_bits (fun W c A outer s H E hcode hr => ?_), gm, F.kp, F.bindsN fun _ _ _ _ _ _ us hl => match us, hl with | [_], _ => rfl⟩⟩
  obtain rfl := same_code hc0 hcode
  have hN : List.Nodup (["text", "sign"] : List Str) := by decide +kernel
  exact (ss_one (s_if (PW.pt (w_or (t_cmp o_gt (s_cmp _ _) (toB (e_bi call_len (s_len hK) fx.f_len (by kernel_rfl) (ab_cons (b_look (i := 0)) ab_nil))) (toB (e_gint fx.c_MOST_BITS_HELD))) (w_or1 (t_val (e_any (k := 0) (own := [("sign", 1)]) ⟨hr.mono (by omega), TB, rfl, tab, uni, gx_by (by kernel_rfl), hN, rfl, (i_of hK (e_var (i := 0))), fun _ => rfl, fun _ _ _ _ _ _ _ hr3 => (g_name hN), fun _ _ _ _ _ _ _ hr3 => t_yes, fun _ _ _ _ _ _ _ hr3 => (e_cmp (oNotIn hr3) (s_notIn hK) (b_look (i := 1)) (toB (e_str (l := [48, 49]))))⟩ fx.f_any))))) (ss_one (s_raiseN rfl takes_fnN (mk_exN fx.x_BitError))) ss_nil))
/-! check_summed -/
def b_check_summed : SM :=
  (sTryX (subE_BitError) (sDo (eCall 1 m_check_bits (aCons (eVar 0) aNil))) (sRaise 2))
def m_check_summed : FM := mkF 1 b_check_summed
theorem m_check_summed_ap (a0 : D) (h : Hc) : m_check_summed [a0] h = (b_check_summed [.v a0] h).toR := id rfl
theorem sc_check_summed : FnScope ["bits"] ["bits"] (defScope (top 17)) := ⟨rfl, rfl, rfl, by decide +kernel, rfl, by decide +kernel, by decide +kernel⟩
theorem z_check_summed (fx : Fx P w K mg base G) : FnZ P w K mg base G 3 "check_summed" 1 m_check_summed := by
  obtain ⟨f, fd, F, gm⟩ := fx.d_check_summed
  have hK := fx.hK
  rw [show m_check_summed = mkF (["bits"] : List Str).length b_check_summed from rfl]
  refine ⟨⟨f, fd, _, rfl, fn_ok (k := 2) F sc_check_summed (fun W c A outer s H E hcode hr => ?_), gm, F.kp, F.bindsN fun _ _ _ _ _ _ us hl => match us, hl with | [_], _ => rfl⟩⟩
  have hN : List.Nodup (["bits"] : List Str) := by decide +kernel
  exact (ss_one (s_tryX (x := "BitError") (c := .ref (G.ca 1)) rfl rfl ⟨rfl, by decide, .inl fx.x_BitError.gm⟩ pat_fn takes_fn fx.sub_BitError fx.x_SumError (fun W pn xe tk1 => (ss_one (s_do (e_callN (zN_check_bits fx) hr tk1 (a_cons (e_var (i := 0)) a_nil) (hk := by omega)))))))
/-! parity -/
def b_parity : SM :=
  (sSeq (sDo (eCall 1 m_check_summed (aCons (eVar 0) aNil)))
    (sRet (eFmt (eBin opMod (eM1 mCount (eVar 0) (eC (.str [49]))) (eC (.int 2))))))
def m_parity : FM := mkF 1 b_parity
theorem m_parity_ap (a0 : D) (h : Hc) : m_parity [a0] h = (b_parity [.v a0] h).toR := id rfl
theorem sc_parity : FnScope ["bits"] ["bits"] (defScope (top 16)) := ⟨rfl, rfl, rfl, by decide +kernel, rfl, by decide +kernel, by decide +kernel⟩
theorem z_parity (fx : Fx P w K mg base G) : FnZ P w K mg base G 4 "parity" 1 m_parity := by
  obtain ⟨f, fd, F, gm⟩ := fx.d_parity
  have hK := fx.hK
  rw [show m_parity = mkF (["bits"] : List Str).length b_parity from rfl]
  refine ⟨⟨f, fd, _, rfl, fn_ok (k := 3) F sc_parity (fun W c A outer s H E hcode hr => ?_), gm, F.kp, F.bindsN fun _ _ _ _ _ _ us hl => match us, hl with | [_], _ => rfl⟩⟩
  have hN : List.Nodup (["bits"] : List Str) := by decide +kernel
  exact (ss_cons (s_do (e_call (z_check_summed fx) hr takes_fn (a_cons (e_var (i := 0)) a_nil) (hk := by omega)))
    (ss_one (s_ret (e_joined1 (e_fmt (e_binB op_modN s_mod (toB (e_m1 s_count PySem.F.slot_str_count PySem.F.type_str_count mt_count (e_var (i := 0)) (toB (e_str (l := [49]))))) (toB e_int)))))))
/-! check_by -/
def b_check_by : SM :=
  (sSeq (sDo (eCall 1 m_check_summed (aCons (eVar 0) aNil)))
    (sIf (tOrM (tNotM (tB1 (eChain opLe opLe (eC (.int 2)) (eBi bLen (aCons (eLook 0) aNil)) (eC (.int 17))))) (tB1 (eBin opEq (eBin opIx (eLook 0) (eC (.int 0))) (eC (.str [48]))))) (sRaise 2) sNx))
def m_check_by : FM := mkF 1 b_check_by
theorem m_check_by_ap (a0 : D) (h : Hc) : m_check_by [a0] h = (b_check_by [.v a0] h).toR := id rfl
theorem sc_check_by : FnScope ["by"] ["by"] (defScope (top 18)) := ⟨rfl, rfl, rfl, by decide +kernel, rfl, by decide +kernel, by decide +kernel⟩
theorem z_check_by (fx : Fx P w K mg base G) : FnZ P w K mg base G 4 "check_by" 1 m_check_by := by
  obtain ⟨f, fd, F, gm⟩ := fx.d_check_by
  have hK := fx.hK
  rw [show m_check_by = mkF (["by"] : List Str).length b_check_by from rfl]
  refine ⟨⟨f, fd, _, rfl, fn_ok (k := 3) F sc_check_by (fun W c A outer s H E hcode hr => ?_), gm, F.kp, F.bindsN fun _ _ _ _ _ _ us hl => match us, hl with | [_], _ => rfl⟩⟩
  have hN : List.Nodup (["by"] : List Str) := by decide +kernel
  exact (ss_cons (s_do (e_call (z_check_summed fx) hr takes_fn (a_cons (e_var (i := 0)) a_nil) (hk := by omega)))
    (ss_one (s_if (PW.pt (w_or (t_not (t_chain o_le o_le (s_cmp _ _) (s_cmp _ _) (toB e_int) (toB (e_bi call_len (s_len hK) fx.f_len (by kernel_rfl) (ab_cons (b_look (i := 0)) ab_nil))) (toB e_int))) (w_or1 (t_cmp (oEq hr) (s_eq hK) (toB (e_ix hK (b_look (i := 0)) e_int)) (toB (e_str (l := [48]))))))) (ss_one (s_raise rfl takes_fn (mk_ex fx.x_SumError))) ss_nil)))
/-! without -/
def b_without : SM :=
  (sRet (eM1 mJoin (eC (.str [])) (eLc (.t [(.n 2), (.n 3)]) [2, 3] (iZpS (aCons (eVar 0) (aCons (eVar 1) aNil))) tYesM (eIf (tB1 (eBin opEq (eLook 2) (eLook 3))) (eC (.str [48])) (eC (.str [49]))))))
def m_without : FM := mkF 4 b_without
theorem m_without_ap (a0 : D) (a1 : D) (h : Hc) : m_without [a0, a1] h = (b_without [.v a0, .v a1, .u, .u] h).toR := id rfl
theorem sc_without : FnScope ["one", "other", "a", "b"] ["one", "other"] (defScope (top 20)) := ⟨rfl, rfl, rfl, by decide +kernel, rfl, by decide +kernel, by decide +kernel⟩
theorem z_without (fx : Fx P w K mg base G) : FnZ P w K mg base G 1 "without" 2 m_without := by
  obtain ⟨f, fd, F, gm⟩ := fx.d_without
  have hK := fx.hK
  rw [show m_without = mkF (["one", "other", "a", "b"] : List Str).length b_without from rfl]
  refine ⟨⟨f, fd, _, rfl, fn_ok (k := 0) F sc_without (fun W c A outer s H E hcode hr => ?_), gm, F.kp, F.bindsN fun _ _ _ _ _ _ us hl => match us, hl with | [_, _], _ => rfl⟩⟩
  have hN : List.Nodup (["one", "other", "a", "b"] : List Str) := by decide +kernel
  exact (ss_one (s_ret (e_m1 (s_join hK) PySem.F.slot_str_join PySem.F.type_str_join mt_join (e_str (l := [])) (toB (n_e (n_lc [("a", 2), ("b", 3)] rfl hN (i_zpS fx.f_zip (a_cons (e_var (i := 0)) (a_cons (e_var (i := 1)) a_nil))) (blkOk_by (by kernel_rfl)) (fun _ _ _ _ _ => (g_tup hK rfl (gs_cons (g_name hN) (gs_cons (g_name hN) gs_nil)))) (fun _ _ _ _ _ => t_yes) (fun _ _ _ _ _ => (e_if (t_cmp (oEq hr) (s_eq hK) (b_look (i := 2)) (b_look (i := 3))) (e_str (l := [48])) (e_str (l := [49]))))))))))
/-! rest -/
def b_rest_0 : SM :=
  (sSeq (sIf (tB1 (eBin opEq (eBin opIx (eLook 2) (eC (.int 0))) (eC (.str [49])))) (sSet 2 (eBin opAdd (eCall 2 m_without (aCons (eSl (eLook 2) pNo (pAt (eBi bLen (aCons (eLook 1) aNil)))) (aCons (eVar 1) aNil))) (eSl (eLook 2) (pAt (eBi bLen (aCons (eLook 1) aNil))) pNo))) sNx)
    (sSet 2 (eSl (eLook 2) (pAt (eC (.int 1))) pNo)))
def b_rest : SM :=
  (sSeq (sDo (eCall 1 m_check_summed (aCons (eVar 0) aNil)))
    (sSeq (sDo (eCall 1 m_check_by (aCons (eVar 1) aNil)))
    (sSeq (sSet 2 (eBin opAdd (eLook 0) (eBin opMul (eC (.str [48])) (eBin opSub (eBi bLen (aCons (eLook 1) aNil)) (eC (.int 1))))))
    (sSeq (sWhile 1000000 (tB1 (eBin opGe (eBi bLen (aCons (eLook 2) aNil)) (eBi bLen (aCons (eLook 1) aNil)))) b_rest_0)
    (sRet (eVar 2))))))
def m_rest : FM := mkF 3 b_rest
theorem m_rest_ap (a0 : D) (a1 : D) (h : Hc) : m_rest [a0, a1] h = (b_rest [.v a0, .v a1, .u] h).toR := id rfl
theorem sc_rest : FnScope ["bits", "by", "held"] ["bits", "by"] (defScope (top 19)) := ⟨rfl, rfl, rfl, by decide +kernel, rfl, by decide +kernel, by decide +kernel⟩
theorem z_rest (fx : Fx P w K mg base G) : FnZ P w K mg base G 5 "rest" 2 m_rest := by
  obtain ⟨f, fd, F, gm⟩ := fx.d_rest
  have hK := fx.hK
  rw [show m_rest = mkF (["bits", "by", "held"] : List Str).length b_rest from rfl]
  refine ⟨⟨f, fd, _, rfl, fn_ok (k := 4) F sc_rest (fun W c A outer s H E hcode hr => ?_), gm, F.kp, F.bindsN fun _ _ _ _ _ _ us hl => match us, hl with | [_, _], _ => rfl⟩⟩
  have hN : List.Nodup (["bits", "by", "held"] : List Str) := by decide +kernel
  exact (ss_cons (s_do (e_call (z_check_summed fx) hr takes_fn (a_cons (e_var (i := 0)) a_nil) (hk := by omega)))
    (ss_cons (s_do (e_call (z_check_by fx) hr takes_fn (a_cons (e_var (i := 1)) a_nil) (hk := by omega)))
    (ss_cons (s_set (i := 2) hN (e_binB op_addAll (s_add hK) (b_look (i := 0)) (toB (e_binB op_mulAll s_mul (toB (e_str (l := [48]))) (toB (e_binB op_sub s_sub (toB (e_bi call_len (s_len hK) fx.f_len (by kernel_rfl) (ab_cons (b_look (i := 1)) ab_nil))) (toB e_int)))))))
    (ss_cons (s_while owns_fn (t_cmp o_ge (s_cmp _ _) (toB (e_bi call_len (s_len hK) fx.f_len (by kernel_rfl) (ab_cons (b_look (i := 2)) ab_nil))) (toB (e_bi call_len (s_len hK) fx.f_len (by kernel_rfl) (ab_cons (b_look (i := 1)) ab_nil)))) (ss_cons (s_if (t_cmp (oEq hr) (s_eq hK) (toB (e_ix hK (b_look (i := 2)) e_int)) (toB (e_str (l := [49])))) (ss_one (s_set (i := 2) hN (e_binB op_addAll (s_add hK) (toB (e_call (z_without fx) hr takes_fn (a_cons (e_sl hK (b_look (i := 2)) p_no (p_at (e_bi call_len (s_len hK) fx.f_len (by kernel_rfl) (ab_cons (b_look (i := 1)) ab_nil)))) (a_cons (e_var (i := 1)) a_nil)) (hk := by omega))) (toB (e_sl hK (b_look (i := 2)) (p_at (e_bi call_len (s_len hK) fx.f_len (by kernel_rfl) (ab_cons (b_look (i := 1)) ab_nil))) p_no))))) ss_nil)
    (ss_one (s_set (i := 2) hN (e_sl hK (b_look (i := 2)) (p_at e_int) p_no)))))
    (ss_one (s_ret (e_var (i := 2))))))))
/-! with_rest -/
def b_with_rest : SM :=
  (sRet (eBin opAdd (eLook 0) (eCall 2 m_rest (aCons (eVar 0) (aCons (eVar 1) aNil)))))
def m_with_rest : FM := mkF 2 b_with_rest
theorem m_with_rest_ap (a0 : D) (a1 : D) (h : Hc) : m_with_rest [a0, a1] h = (b_with_rest [.v a0, .v a1] h).toR := id rfl
theorem sc_with_rest : FnScope ["bits", "by"] ["bits", "by"] (defScope (top 21)) := ⟨rfl, rfl, rfl, by decide +kernel, rfl, by decide +kernel, by decide +kernel⟩
theorem z_with_rest (fx : Fx P w K mg base G) : FnZ P w K mg base G 6 "with_rest" 2 m_with_rest := by
  obtain ⟨f, fd, F, gm⟩ := fx.d_with_rest
  have hK := fx.hK
  rw [show m_with_rest = mkF (["bits", "by"] : List Str).length b_with_rest from rfl]
  refine ⟨⟨f, fd, _, rfl, fn_ok (k := 5) F sc_with_rest (fun W c A outer s H E hcode hr => ?_), gm, F.kp, F.bindsN fun _ _ _ _ _ _ us hl => match us, hl with | [_, _], _ => rfl⟩⟩
  have hN : List.Nodup (["bits", "by"] : List Str) := by decide +kernel
  exact (ss_one (s_ret (e_binB op_addAll (s_add hK) (b_look (i := 0)) (toB (e_call (z_rest fx) hr takes_fn (a_cons (e_var (i := 0)) (a_cons (e_var (i := 1)) a_nil)) (hk := by omega))))))
/-! is_right -/
def b_is_right : SM :=
  (sSeq (sSet 2 (eBin opSub (eBi bLen (aCons (eLook 1) aNil)) (eC (.int 1))))
    (sSeq (sIf (tB1 (eBin opLt (eBi bLen (aCons (eLook 0) aNil)) (eLook 2))) (sRaise 2) sNx)
    (sSeq (sDo (eCall 1 m_check_by (aCons (eVar 1) aNil)))
    (sRet (eBin opEq (eCall 2 m_with_rest (aCons (eSl (eLook 0) pNo (pAt (eBin opSub (eBi bLen (aCons (eLook 0) aNil)) (eLook 2)))) (aCons (eVar 1) aNil))) (eLook 0))))))
def m_is_right : FM := mkF 3 b_is_right
theorem m_is_right_ap (a0 : D) (a1 : D) (h : Hc) : m_is_right [a0, a1] h = (b_is_right [.v a0, .v a1, .u] h).toR := id rfl
theorem sc_is_right : FnScope ["bits", "by", "many"] ["bits", "by"] (defScope (top 22)) := ⟨rfl, rfl, rfl, by decide +kernel, rfl, by decide +kernel, by decide +kernel⟩
theorem z_is_right (fx : Fx P w K mg base G) : FnZ P w K mg base G 7 "is_right" 2 m_is_right := by
  obtain ⟨f, fd, F, gm⟩ := fx.d_is_right
  have hK := fx.hK
  rw [show m_is_right = mkF (["bits", "by", "many"] : List Str).length b_is_right from rfl]
  refine ⟨⟨f, fd, _, rfl, fn_ok (k := 6) F sc_is_right (fun W c A outer s H E hcode hr => ?_), gm, F.kp, F.bindsN fun _ _ _ _ _ _ us hl => match us, hl with | [_, _], _ => rfl⟩⟩
  have hN : List.Nodup (["bits", "by", "many"] : List Str) := by decide +kernel
  exact (ss_cons (s_set (i := 2) hN (e_binB op_sub s_sub (toB (e_bi call_len (s_len hK) fx.f_len (by kernel_rfl) (ab_cons (b_look (i := 1)) ab_nil))) (toB e_int)))
    (ss_cons (s_if (t_cmp o_lt (s_cmp _ _) (toB (e_bi call_len (s_len hK) fx.f_len (by kernel_rfl) (ab_cons (b_look (i := 0)) ab_nil))) (b_look (i := 2))) (ss_one (s_raise rfl takes_fn (mk_ex fx.x_SumError))) ss_nil)
    (ss_cons (s_do (e_call (z_check_by fx) hr takes_fn (a_cons (e_var (i := 1)) a_nil) (hk := by omega)))
    (ss_one (s_ret (e_cmp (oEq hr) (s_eq hK) (toB (e_call (z_with_rest fx) hr takes_fn (a_cons (e_sl hK (b_look (i := 0)) p_no (p_at (e_binB op_sub s_sub (toB (e_bi call_len (s_len hK) fx.f_len (by kernel_rfl) (ab_cons (b_look (i := 0)) ab_nil))) (b_look (i := 2))))) (a_cons (e_var (i := 1)) a_nil)) (hk := by omega))) (b_look (i := 0))))))))
/-! rest_of_sum -/
def b_rest_of_sum : SM :=
  (sSeq (sDo (eCall 1 m_check_by (aCons (eVar 2) aNil)))
    (sSeq (sIf (tOrM (tB1 (eBin opNe (eBi bLen (aCons (eLook 0) aNil)) (eBin opSub (eBi bLen (aCons (eLook 2) aNil)) (eC (.int 1))))) (tB1 (eBin opNe (eBi bLen (aCons (eLook 1) aNil)) (eBi bLen (aCons (eLook 0) aNil))))) (sRaise 2) sNx)
    (sSeq (sDo (eCall 1 m_check_summed (aCons (eBin opAdd (eLook 0) (eLook 1)) aNil)))
    (sRet (eCall 2 m_without (aCons (eVar 0) (aCons (eVar 1) aNil)))))))
def m_rest_of_sum : FM := mkF 3 b_rest_of_sum
theorem m_rest_of_sum_ap (a0 : D) (a1 : D) (a2 : D) (h : Hc) : m_rest_of_sum [a0, a1, a2] h = (b_rest_of_sum [.v a0, .v a1, .v a2] h).toR := id rfl
theorem sc_rest_of_sum : FnScope ["one", "other", "by"] ["one", "other", "by"] (defScope (top 23)) := ⟨rfl, rfl, rfl, by decide +kernel, rfl, by decide +kernel, by decide +kernel⟩
theorem z_rest_of_sum (fx : Fx P w K mg base G) : FnZ P w K mg base G 5 "rest_of_sum" 3 m_rest_of_sum := by
  obtain ⟨f, fd, F, gm⟩ := fx.d_rest_of_sum
  have hK := fx.hK
  rw [show m_rest_of_sum = mkF (["one", "other", "by"] : List Str).length b_rest_of_sum from rfl]
  refine ⟨⟨f, fd, _, rfl, fn_ok (k := 4) F sc_rest_of_sum (fun W c A outer s H E hcode hr => ?_), gm, F.kp, F.bindsN fun _ _ _ _ _ _ us hl => match us, hl with | [_, _, _], _ => rfl⟩⟩
  have hN : List.Nodup (["one", "other", "by"] : List Str) := by decide +kernel
  exact (ss_cons (s_do (e_call (z_check_by fx) hr takes_fn (a_cons (e_var (i := 2)) a_nil) (hk := by omega)))
    (ss_cons (s_if (PW.pt (w_or (t_cmp (oNe hr) (s_ne hK) (toB (e_bi call_len (s_len hK) fx.f_len (by kernel_rfl) (ab_cons (b_look (i := 0)) ab_nil))) (toB (e_binB op_sub s_sub (toB (e_bi call_len (s_len hK) fx.f_len (by kernel_rfl) (ab_cons (b_look (i := 2)) ab_nil))) (toB e_int)))) (w_or1 (t_cmp (oNe hr) (s_ne hK) (toB (e_bi call_len (s_len hK) fx.f_len (by kernel_rfl) (ab_cons (b_look (i := 1)) ab_nil))) (toB (e_bi call_len (s_len hK) fx.f_len (by kernel_rfl) (ab_cons (b_look (i := 0)) ab_nil))))))) (ss_one (s_raise rfl takes_fn (mk_ex fx.x_SumError))) ss_nil)
    (ss_cons (s_do (e_call (z_check_summed fx) hr takes_fn (a_cons (e_binB op_addAll (s_add hK) (b_look (i := 0)) (b_look (i := 1))) a_nil) (hk := by omega)))
    (ss_one (s_ret (e_call (z_without fx) hr takes_fn (a_cons (e_var (i := 0)) (a_cons (e_var (i := 1)) a_nil)) (hk := by omega)))))))
/-! longer -/
def b_longer_0 : SM :=
  (sKl [3] (sExt 2 (eLc (.n 4) [4] (iR2 (aCons (eIf (tB1 (eBin opNe (eLook 3) (eTup aNil))) (eBin opAdd (eBin opIx (eLook 3) (eNeg (eC (.int 1)))) (eC (.int 1))) (eC (.int 0))) (aCons (eVar 1) aNil))) tYesM (eBin opAdd (eLook 3) (eTup (aCons (eVar 4) aNil))))))
def b_longer : SM :=
  (sSeq (sSetN 2 (eLst aNil))
    (sSeq (sFor (.n 3) (iOf (eVar 0)) b_longer_0)
    (sFz 2 (sRet (eVar 2)))))
def m_longer : FM := mkF 5 b_longer
theorem m_longer_ap (a0 : D) (a1 : D) (h : Hc) : m_longer [a0, a1] h = (b_longer [.v a0, .v a1, .u, .u, .u] h).toR := id rfl
theorem sc_longer : FnScope ["rows", "many", "found", "row", "place"] ["rows", "many"] (defScope (top 27)) := ⟨rfl, rfl, rfl, by decide +kernel, rfl, by decide +kernel, by decide +kernel⟩
theorem z_longer (fx : Fx P w K mg base G) : FnZ P w K mg base G 1 "longer" 2 m_longer := by
  obtain ⟨f, fd, F, gm⟩ := fx.d_longer
  have hK := fx.hK
  rw [show m_longer = mkF (["rows", "many", "found", "row", "place"] : List Str).length b_longer from rfl]
  refine ⟨⟨f, fd, _, rfl, fn_ok (k := 0) F sc_longer (fun W c A outer s H E hcode hr => ?_), gm, F.kp, F.bindsN fun _ _ _ _ _ _ us hl => match us, hl with | [_, _], _ => rfl⟩⟩
  have hN : List.Nodup (["rows", "many", "found", "row", "place"] : List Str) := by decide +kernel
  exact (ss_cons (s_setN (i := 2) hN (n_lst a_nil))
    (ss_cons (s_for owns_fn rfl (g_name hN) (i_of hK (e_var (i := 0))) (ss_kl (ss_one (s_ext (i := 2) hN (toB (n_e (n_lc [("place", 4)] rfl hN (i_r2 fx.f_range (a_cons (e_if (t_cmp (oNe hr) (s_ne hK) (b_look (i := 3)) (toB (e_tup a_nil))) (e_binB op_addAll (s_add hK) (toB (e_ix hK (b_look (i := 3)) (e_neg e_int))) (toB e_int)) e_int) (a_cons (e_var (i := 1)) a_nil))) (blkOk_by (by kernel_rfl)) (fun _ _ _ _ _ => (g_name hN)) (fun _ _ _ _ _ => t_yes) (fun _ _ _ _ _ => (e_binB op_addAll (s_add hK) (b_look (i := 3)) (toB (e_tup (a_cons (e_var (i := 4)) a_nil))))))))))))
    (ss_one (s_fz (s_ret (e_var (i := 2)))))))
/-! some_places -/
def b_some_places_0 : SM :=
  (sKl [4] (sSeq (sSet 2 (eCall 2 m_longer (aCons (eVar 2) (aCons (eVar 0) aNil))))
    (sExt 3 (eLook 2))))
def b_some_places : SM :=
  (sSeq (sPar 2 3 (vE (eLst (aCons (eTup aNil) aNil))) (vN (eLst aNil)))
    (sSeq (sFor (.n 4) (iR1 (aCons (eVar 1) aNil)) b_some_places_0)
    (sFz 3 (sRet (eVar 3)))))
def m_some_places : FM := mkF 5 b_some_places
theorem m_some_places_ap (a0 : D) (a1 : D) (h : Hc) : m_some_places [a0, a1] h = (b_some_places [.v a0, .v a1, .u, .u, .u] h).toR := id rfl
theorem sc_some_places : FnScope ["many", "most", "rows", "found", "turn"] ["many", "most"] (defScope (top 26)) := ⟨rfl, rfl, rfl, by decide +kernel, rfl, by decide +kernel, by decide +kernel⟩
theorem z_some_places (fx : Fx P w K mg base G) : FnZ P w K mg base G 2 "some_places" 2 m_some_places := by
  obtain ⟨f, fd, F, gm⟩ := fx.d_some_places
  have hK := fx.hK
  rw [show m_some_places = mkF (["many", "most", "rows", "found", "turn"] : List Str).length b_some_places from rfl]
  refine ⟨⟨f, fd, _, rfl, fn_ok (k := 1) F sc_some_places (fun W c A outer s H E hcode hr => ?_), gm, F.kp, F.bindsN fun _ _ _ _ _ _ us hl => match us, hl with | [_, _], _ => rfl⟩⟩
  have hN : List.Nodup (["many", "most", "rows", "found", "turn"] : List Str) := by decide +kernel
  exact (ss_cons (s_par (i := 2) (j := 3) rfl hN (v_e (n_e (n_lst (a_cons (e_tup a_nil) a_nil)))) (v_n (n_lst a_nil)))
    (ss_cons (s_for owns_fn rfl (g_name hN) (i_r1 fx.f_range (a_cons (e_var (i := 1)) a_nil)) (ss_kl (ss_cons (s_set (i := 2) hN (e_call (z_longer fx) hr takes_fn (a_cons (e_var (i := 2)) (a_cons (e_var (i := 0)) a_nil)) (hk := by omega)))
    (ss_one (s_ext (i := 3) hN (b_look (i := 2)))))))
    (ss_one (s_fz (s_ret (e_var (i := 3)))))))
/-! rest_alone -/
def b_rest_alone_0 : SM :=
  (sSeq (sIf (tB1 (eBin opEq (eBin opIx (eLook 2) (eC (.int 0))) (eC (.str [49])))) (sSet 2 (eBin opAdd (eCall 2 m_without (aCons (eSl (eLook 2) pNo (pAt (eBi bLen (aCons (eLook 1) aNil)))) (aCons (eVar 1) aNil))) (eSl (eLook 2) (pAt (eBi bLen (aCons (eLook 1) aNil))) pNo))) sNx)
    (sSet 2 (eSl (eLook 2) (pAt (eC (.int 1))) pNo)))
def b_rest_alone : SM :=
  (sSeq (sSet 2 (eVar 0))
    (sSeq (sWhile 1000000 (tB1 (eBin opGe (eBi bLen (aCons (eLook 2) aNil)) (eBi bLen (aCons (eLook 1) aNil)))) b_rest_alone_0)
    (sRet (eBin opAdd (eBin opMul (eC (.str [48])) (eBin opSub (eBin opSub (eBi bLen (aCons (eLook 1) aNil)) (eC (.int 1))) (eBi bLen (aCons (eLook 2) aNil)))) (eLook 2)))))
def m_rest_alone : FM := mkF 3 b_rest_alone
theorem m_rest_alone_ap (a0 : D) (a1 : D) (h : Hc) : m_rest_alone [a0, a1] h = (b_rest_alone [.v a0, .v a1, .u] h).toR := id rfl
theorem sc_rest_alone : FnScope ["bits", "by", "held"] ["bits", "by"] (defScope (top 25)) := ⟨rfl, rfl, rfl, by decide +kernel, rfl, by decide +kernel, by decide +kernel⟩
theorem z_rest_alone (fx : Fx P w K mg base G) : FnZ P w K mg base G 2 "rest_alone" 2 m_rest_alone := by
  obtain ⟨f, fd, F, gm⟩ := fx.d_rest_alone
  have hK := fx.hK
  rw [show m_rest_alone = mkF (["bits", "by", "held"] : List Str).length b_rest_alone from rfl]
  refine ⟨⟨f, fd, _, rfl, fn_ok (k := 1) F sc_rest_alone (fun W c A outer s H E hcode hr => ?_), gm, F.kp, F.bindsN fun _ _ _ _ _ _ us hl => match us, hl with | [_, _], _ => rfl⟩⟩
  have hN : List.Nodup (["bits", "by", "held"] : List Str) := by decide +kernel
  exact (ss_cons (s_set (i := 2) hN (e_var (i := 0)))
    (ss_cons (s_while owns_fn (t_cmp o_ge (s_cmp _ _) (toB (e_bi call_len (s_len hK) fx.f_len (by kernel_rfl) (ab_cons (b_look (i := 2)) ab_nil))) (toB (e_bi call_len (s_len hK) fx.f_len (by kernel_rfl) (ab_cons (b_look (i := 1)) ab_nil)))) (ss_cons (s_if (t_cmp (oEq hr) (s_eq hK) (toB (e_ix hK (b_look (i := 2)) e_int)) (toB (e_str (l := [49])))) (ss_one (s_set (i := 2) hN (e_binB op_addAll (s_add hK) (toB (e_call (z_without fx) hr takes_fn (a_cons (e_sl hK (b_look (i := 2)) p_no (p_at (e_bi call_len (s_len hK) fx.f_len (by kernel_rfl) (ab_cons (b_look (i := 1)) ab_nil)))) (a_cons (e_var (i := 1)) a_nil)) (hk := by omega))) (toB (e_sl hK (b_look (i := 2)) (p_at (e_bi call_len (s_len hK) fx.f_len (by kernel_rfl) (ab_cons (b_look (i := 1)) ab_nil))) p_no))))) ss_nil)
    (ss_one (s_set (i := 2) hN (e_sl hK (b_look (i := 2)) (p_at e_int) p_no)))))
    (ss_one (s_ret (e_binB op_addAll (s_add hK) (toB (e_binB op_mulAll s_mul (toB (e_str (l := [48]))) (toB (e_binB op_sub s_sub (toB (e_binB op_sub s_sub (toB (e_bi call_len (s_len hK) fx.f_len (by kernel_rfl) (ab_cons (b_look (i := 1)) ab_nil))) (toB e_int))) (toB (e_bi call_len (s_len hK) fx.f_len (by kernel_rfl) (ab_cons (b_look (i := 2)) ab_nil))))))) (b_look (i := 2)))))))
/-! slips_unseen -/
def b_slips_unseen_0 : SM :=
  (sKl [4, 5] (sSeq (sSet 5 (eM1 mJoin (eC (.str [])) (eLc (.n 6) [6] (iR1 (aCons (eVar 0) aNil)) tYesM (eIf (tB1 (eBin opIn (eLook 6) (eLook 4))) (eC (.str [49])) (eC (.str [48]))))))
    (sIf (tB1 (eBin opEq (eCall 2 m_rest_alone (aCons (eVar 5) (aCons (eVar 1) aNil))) (eBin opMul (eC (.str [48])) (eBin opSub (eBi bLen (aCons (eLook 1) aNil)) (eC (.int 1)))))) (sWm wAppend 3 (aCons (eVar 4) aNil)) sNx)))
def b_slips_unseen : SM :=
  (sSeq (sDo (eCall 1 m_check_by (aCons (eVar 1) aNil)))
    (sSeq (sIf (tOrM (tNotM (tB1 (eChain opLe opLe (eC (.int 1)) (eLook 0) (eC (.int 16))))) (tNotM (tB1 (eChain opLe opLe (eC (.int 1)) (eLook 2) (eC (.int 3)))))) (sRaise 2) sNx)
    (sSeq (sSetN 3 (eLst aNil))
    (sSeq (sFor (.n 4) (iOf (eCall 2 m_some_places (aCons (eVar 0) (aCons (eVar 2) aNil)))) b_slips_unseen_0)
    (sRet (eBi bTuple (aCons (eLook 3) aNil)))))))
def m_slips_unseen : FM := mkF 7 b_slips_unseen
theorem m_slips_unseen_ap (a0 : D) (a1 : D) (a2 : D) (h : Hc) : m_slips_unseen [a0, a1, a2] h = (b_slips_unseen [.v a0, .v a1, .v a2, .u, .u, .u, .u] h).toR := id rfl
theorem sc_slips_unseen : FnScope ["many", "by", "most", "found", "places", "row", "place"] ["many", "by", "most"] (defScope (top 24)) := ⟨rfl, rfl, rfl, by decide +kernel, rfl, by decide +kernel, by decide +kernel⟩
theorem z_slips_unseen (fx : Fx P w K mg base G) : FnZ P w K mg base G 5 "slips_unseen" 3 m_slips_unseen := by
  obtain ⟨f, fd, F, gm⟩ := fx.d_slips_unseen
  have hK := fx.hK
  rw [show m_slips_unseen = mkF (["many", "by", "most", "found", "places", "row", "place"] : List Str).length b_slips_unseen from rfl]
  refine ⟨⟨f, fd, _, rfl, fn_ok (k := 4) F sc_slips_unseen (fun W c A outer s H E hcode hr => ?_), gm, F.kp, F.bindsN fun _ _ _ _ _ _ us hl => match us, hl with | [_, _, _], _ => rfl⟩⟩
  have hN : List.Nodup (["many", "by", "most", "found", "places", "row", "place"] : List Str) := by decide +kernel
  exact (ss_cons (s_do (e_call (z_check_by fx) hr takes_fn (a_cons (e_var (i := 1)) a_nil) (hk := by omega)))
    (ss_cons (s_if (PW.pt (w_or (t_not (t_chain o_le o_le (s_cmp _ _) (s_cmp _ _) (toB e_int) (b_look (i := 0)) (toB e_int))) (w_or1 (t_not (t_chain o_le o_le (s_cmp _ _) (s_cmp _ _) (toB e_int) (b_look (i := 2)) (toB e_int)))))) (ss_one (s_raise rfl takes_fn (mk_ex fx.x_SumError))) ss_nil)
    (ss_cons (s_setN (i := 3) hN (n_lst a_nil))
    (ss_cons (s_for owns_fn rfl (g_name hN) (i_of hK (e_call (z_some_places fx) hr takes_fn (a_cons (e_var (i := 0)) (a_cons (e_var (i := 2)) a_nil)) (hk := by omega))) (ss_kl (ss_cons (s_set (i := 5) hN (e_m1 (s_join hK) PySem.F.slot_str_join PySem.F.type_str_join mt_join (e_str (l := [])) (toB (n_e (n_lc [("place", 6)] rfl hN (i_r1 fx.f_range (a_cons (e_var (i := 0)) a_nil)) (blkOk_by (by kernel_rfl)) (fun _ _ _ _ _ => (g_name hN)) (fun _ _ _ _ _ => t_yes) (fun _ _ _ _ _ => (e_if (t_cmp (oIn hr) (s_in hK) (b_look (i := 6)) (b_look (i := 4))) (e_str (l := [49])) (e_str (l := [48])))))))))
    (ss_one (s_if (t_cmp (oEq hr) (s_eq hK) (toB (e_call (z_rest_alone fx) hr takes_fn (a_cons (e_var (i := 5)) (a_cons (e_var (i := 1)) a_nil)) (hk := by omega))) (toB (e_binB op_mulAll s_mul (toB (e_str (l := [48]))) (toB (e_binB op_sub s_sub (toB (e_bi call_len (s_len hK) fx.f_len (by kernel_rfl) (ab_cons (b_look (i := 1)) ab_nil))) (toB e_int)))))) (ss_one (wm_do s_append (pe_wm (i := 3) PySem.F.slot_list_append PySem.F.type_list_append mt_append (a_cons (e_var (i := 4)) a_nil)))) ss_nil)))))
    (ss_one (s_ret (e_biT call_tuple_of (s_tuple hK) fx.f_tuple (by kernel_rfl) (ab_cons (b_look (i := 3)) ab_nil))))))))
/-! one_slip -/
def b_one_slip_0 : SM :=
  (sKl [3, 4] (sSeq (sSet 4 (eBin opAdd (eBin opAdd (eSl (eLook 0) pNo (pAt (eVar 3))) (eIf (tB1 (eBin opEq (eBin opIx (eLook 0) (eVar 3)) (eC (.str [48])))) (eC (.str [49])) (eC (.str [48])))) (eSl (eLook 0) (pAt (eBin opAdd (eLook 3) (eC (.int 1)))) pNo)))
    (sExt 2 (eIf (tB1 (eCall 2 m_is_right (aCons (eVar 4) (aCons (eVar 1) aNil)))) (eLst (aCons (eVar 3) aNil)) (eLst aNil)))))
def b_one_slip : SM :=
  (sSeq (sIf (tB1 (eCall 2 m_is_right (aCons (eVar 0) (aCons (eVar 1) aNil)))) (sRet (eBin opSub (eC (.int 0)) (eC (.int 1)))) sNx)
    (sSeq (sSetN 2 (eLst aNil))
    (sSeq (sFor (.n 3) (iR1 (aCons (eBi bLen (aCons (eLook 0) aNil)) aNil)) b_one_slip_0)
    (sRet (eIf (tB1 (eBin opEq (eBi bLen (aCons (eLook 2) aNil)) (eC (.int 1)))) (eBin opIx (eLook 2) (eC (.int 0))) (eC .non))))))
def m_one_slip : FM := mkF 5 b_one_slip
theorem m_one_slip_ap (a0 : D) (a1 : D) (h : Hc) : m_one_slip [a0, a1] h = (b_one_slip [.v a0, .v a1, .u, .u, .u] h).toR := id rfl
theorem sc_one_slip : FnScope ["bits", "by", "hits", "place", "turned"] ["bits", "by"] (defScope (top 28)) := ⟨rfl, rfl, rfl, by decide +kernel, rfl, by decide +kernel, by decide +kernel⟩
theorem z_one_slip (fx : Fx P w K mg base G) : FnZ P w K mg base G 8 "one_slip" 2 m_one_slip := by
  obtain ⟨f, fd, F, gm⟩ := fx.d_one_slip
  have hK := fx.hK
  rw [show m_one_slip = mkF (["bits", "by", "hits", "place", "turned"] : List Str).length b_one_slip from rfl]
  refine ⟨⟨f, fd, _, rfl, fn_ok (k := 7) F sc_one_slip (fun W c A outer s H E hcode hr => ?_), gm, F.kp, F.bindsN fun _ _ _ _ _ _ us hl => match us, hl with | [_, _], _ => rfl⟩⟩
  have hN : List.Nodup (["bits", "by", "hits", "place", "turned"] : List Str) := by decide +kernel
  exact (ss_cons (s_if (t_val (e_call (z_is_right fx) hr takes_fn (a_cons (e_var (i := 0)) (a_cons (e_var (i := 1)) a_nil)) (hk := by omega))) (ss_one (s_ret (e_binB op_sub s_sub (toB e_int) (toB e_int)))) ss_nil)
    (ss_cons (s_setN (i := 2) hN (n_lst a_nil))
    (ss_cons (s_for owns_fn rfl (g_name hN) (i_r1 fx.f_range (a_cons (e_bi call_len (s_len hK) fx.f_len (by kernel_rfl) (ab_cons (b_look (i := 0)) ab_nil)) a_nil)) (ss_kl (ss_cons (s_set (i := 4) hN (e_binB op_addAll (s_add hK) (toB (e_binB op_addAll (s_add hK) (toB (e_sl hK (b_look (i := 0)) p_no (p_at (e_var (i := 3))))) (toB (e_if (t_cmp (oEq hr) (s_eq hK) (toB (e_ix hK (b_look (i := 0)) (e_var (i := 3)))) (toB (e_str (l := [48])))) (e_str (l := [49])) (e_str (l := [48])))))) (toB (e_sl hK (b_look (i := 0)) (p_at (e_binB op_addAll (s_add hK) (b_look (i := 3)) (toB e_int))) p_no))))
    (ss_one (s_ext (i := 2) hN (toB (e_if (t_val (e_call (z_is_right fx) hr takes_fn (a_cons (e_var (i := 4)) (a_cons (e_var (i := 1)) a_nil)) (hk := by omega))) (n_e (n_lst (a_cons (e_var (i := 3)) a_nil))) (n_e (n_lst a_nil)))))))))
    (ss_one (s_ret (e_if (t_cmp (oEq hr) (s_eq hK) (toB (e_bi call_len (s_len hK) fx.f_len (by kernel_rfl) (ab_cons (b_look (i := 2)) ab_nil))) (toB e_int)) (e_ix hK (b_look (i := 2)) e_int) e_non))))))
/-! round_of -/
def b_round_of_0 : SM :=
  (sKl [3] (sSeq (sSet 2 (eCall 2 m_rest_alone (aCons (eBin opAdd (eLook 2) (eC (.str [48]))) (aCons (eVar 0) aNil))))
    (sIf (tB1 (eBin opEq (eLook 2) (eLook 1))) (sRet (eVar 3)) sNx)))
def b_round_of : SM :=
  (sSeq (sDo (eCall 1 m_check_by (aCons (eVar 0) aNil)))
    (sSeq (sSet 1 (eBin opAdd (eBin opMul (eC (.str [48])) (eBin opSub (eBi bLen (aCons (eLook 0) aNil)) (eC (.int 2)))) (eC (.str [49]))))
    (sSeq (sSet 2 (eVar 1))
    (sSeq (sFor (.n 3) (iR2 (aCons (eC (.int 1)) (aCons (eC (.int 501)) aNil))) b_round_of_0)
    (sRet (eC .non))))))
def m_round_of : FM := mkF 4 b_round_of
theorem m_round_of_ap (a0 : D) (h : Hc) : m_round_of [a0] h = (b_round_of [.v a0, .u, .u, .u] h).toR := id rfl
theorem sc_round_of : FnScope ["by", "first", "here", "step"] ["by"] (defScope (top 29)) := ⟨rfl, rfl, rfl, by decide +kernel, rfl, by decide +kernel, by decide +kernel⟩
theorem z_round_of (fx : Fx P w K mg base G) : FnZ P w K mg base G 5 "round_of" 1 m_round_of := by
  obtain ⟨f, fd, F, gm⟩ := fx.d_round_of
  have hK := fx.hK
  rw [show m_round_of = mkF (["by", "first", "here", "step"] : List Str).length b_round_of from rfl]
  refine ⟨⟨f, fd, _, rfl, fn_ok (k := 4) F sc_round_of (fun W c A outer s H E hcode hr => ?_), gm, F.kp, F.bindsN fun _ _ _ _ _ _ us hl => match us, hl with | [_], _ => rfl⟩⟩
  have hN : List.Nodup (["by", "first", "here", "step"] : List Str) := by decide +kernel
  exact (ss_cons (s_do (e_call (z_check_by fx) hr takes_fn (a_cons (e_var (i := 0)) a_nil) (hk := by omega)))
    (ss_cons (s_set (i := 1) hN (e_binB op_addAll (s_add hK) (toB (e_binB op_mulAll s_mul (toB (e_str (l := [48]))) (toB (e_binB op_sub s_sub (toB (e_bi call_len (s_len hK) fx.f_len (by kernel_rfl) (ab_cons (b_look (i := 0)) ab_nil))) (toB e_int))))) (toB (e_str (l := [49])))))
    (ss_cons (s_set (i := 2) hN (e_var (i := 1)))
    (ss_cons (s_for owns_fn rfl (g_name hN) (i_r2 fx.f_range (a_cons e_int (a_cons e_int a_nil))) (ss_kl (ss_cons (s_set (i := 2) hN (e_call (z_rest_alone fx) hr takes_fn (a_cons (e_binB op_addAll (s_add hK) (b_look (i := 2)) (toB (e_str (l := [48])))) (a_cons (e_var (i := 0)) a_nil)) (hk := by omega)))
    (ss_one (s_if (t_cmp (oEq hr) (s_eq hK) (b_look (i := 2)) (b_look (i := 1))) (ss_one (s_ret (e_var (i := 3)))) ss_nil)))))
    (ss_one (s_ret e_non))))))
/-! told_rest -/
def b_told_rest : SM :=
  (sRet (eCall 1 m_number_in (aCons (eCall 2 m_rest (aCons (eVar 0) (aCons (eVar 1) aNil))) aNil)))
def m_told_rest : FM := mkF 2 b_told_rest
theorem m_told_rest_ap (a0 : D) (a1 : D) (h : Hc) : m_told_rest [a0, a1] h = (b_told_rest [.v a0, .v a1] h).toR := id rfl
theorem sc_told_rest : FnScope ["bits", "by"] ["bits", "by"] (defScope (top 30)) := ⟨rfl, rfl, rfl, by decide +kernel, rfl, by decide +kernel, by decide +kernel⟩
theorem z_told_rest (fx : Fx P w K mg base G) : FnZ P w K mg base G 6 "told_rest" 2 m_told_rest := by
  obtain ⟨f, fd, F, gm⟩ := fx.d_told_rest
  have hK := fx.hK
  rw [show m_told_rest = mkF (["bits", "by"] : List Str).length b_told_rest from rfl]
  refine ⟨⟨f, fd, _, rfl, fn_ok (k := 5) F sc_told_rest (fun W c A outer s H E hcode hr => ?_), gm, F.kp, F.bindsN fun _ _ _ _ _ _ us hl => match us, hl with | [_, _], _ => rfl⟩⟩
  have hN : List.Nodup (["bits", "by"] : List Str) := by decide +kernel
  exact (ss_one (s_ret (e_call (z_number_in fx) hr takes_fn (a_cons (e_call (z_rest fx) hr takes_fn (a_cons (e_var (i := 0)) (a_cons (e_var (i := 1)) a_nil)) (hk := by omega)) a_nil) (hk := by omega))))
/-! eights_of -/
def b_eights_of : SM :=
  (sSeq (sDo (eCall 1 m_check_eights (aCons (eVar 0) aNil)))
    (sRet (eM1 mJoin (eC (.str [])) (eLc (.n 1) [1] (iOf (eVar 0)) tYesM (eCall 2 m_told_number (aCons (eVar 1) (aCons (eC (.int 8)) aNil)))))))
def m_eights_of : FM := mkF 2 b_eights_of
theorem m_eights_of_ap (a0 : D) (h : Hc) : m_eights_of [a0] h = (b_eights_of [.v a0, .u] h).toR := id rfl
theorem sc_eights_of : FnScope ["numbers", "number"] ["numbers"] (defScope (top 31)) := ⟨rfl, rfl, rfl, by decide +kernel, rfl, by decide +kernel, by decide +kernel⟩
theorem z_eights_of (fx : Fx P w K mg base G) : FnZ P w K mg base G 3 "eights_of" 1 m_eights_of := by
  obtain ⟨f, fd, F, gm⟩ := fx.d_eights_of
  have hK := fx.hK
  rw [show m_eights_of = mkF (["numbers", "number"] : List Str).length b_eights_of from rfl]
  refine ⟨⟨f, fd, _, rfl, fn_ok (k := 2) F sc_eights_of (fun W c A outer s H E hcode hr => ?_), gm, F.kp, F.bindsN fun _ _ _ _ _ _ us hl => match us, hl with | [_], _ => rfl⟩⟩
  have hN : List.Nodup (["numbers", "number"] : List Str) := by decide +kernel
  exact (ss_cons (s_do (e_call (z_check_eights fx) hr takes_fn (a_cons (e_var (i := 0)) a_nil) (hk := by omega)))
    (ss_one (s_ret (e_m1 (s_join hK) PySem.F.slot_str_join PySem.F.type_str_join mt_join (e_str (l := [])) (toB (n_e (n_lc [("number", 1)] rfl hN (i_of hK (e_var (i := 0))) (blkOk_by (by kernel_rfl)) (fun _ _ _ _ _ => (g_name hN)) (fun _ _ _ _ _ => t_yes) (fun _ _ _ _ _ => (e_call (z_told_number fx) hr takes0 (a_cons (e_var (i := 1)) (a_cons e_int a_nil)) (hk := by omega))))))))))
/-! _law_dice -/
def b__law_dice : SM :=
  (sSeq (sIf (tB1 (eChain opLt opLt (eBin opSub (eC (.int 0)) (eC (.int 10))) (eLook 0) (eC (.int 10)))) (sRet (eBox (eLst (aCons (eBi bAbs (aCons (eLook 0) aNil)) (aCons (eC (.int 0)) (aCons (eC (.int 2)) aNil)))))) sNx)
    (sRet (eBox (eLst (aCons (eVar 0) (aCons (eBin opAdd (eC (.int 1)) (eBin opMod (eBi bInt (aCons (eLook 0) aNil)) (eC (.int 1009)))) (aCons (eBi bInt (aCons (eBin opGe (eLook 0) (eBin opPow (eC (.int 10)) (eC (.int 18)))) aNil)) aNil)))))))
def m__law_dice : FM := mkF 1 b__law_dice
theorem m__law_dice_ap (a0 : D) (h : Hc) : m__law_dice [a0] h = (b__law_dice [.v a0] h).toR := id rfl
theorem sc__law_dice : FnScope ["cell"] ["cell"] (defScope (top 33)) := ⟨rfl, rfl, rfl, by decide +kernel, rfl, by decide +kernel, by decide +kernel⟩
theorem z__law_dice (fx : Fx P w K mg base G) : FnZ P w K mg base G 1 "_law_dice" 1 m__law_dice := by
  obtain ⟨f, fd, F, gm⟩ := fx.d__law_dice
  have hK := fx.hK
  rw [show m__law_dice = mkF (["cell"] : List Str).length b__law_dice from rfl]
  refine ⟨⟨f, fd, _, rfl, fn_ok (k := 0) F sc__law_dice (fun W c A outer s H E hcode hr => ?_), gm, F.kp, F.bindsN fun _ _ _ _ _ _ us hl => match us, hl with | [_], _ => rfl⟩⟩
  have hN : List.Nodup (["cell"] : List Str) := by decide +kernel
  exact (ss_cons (s_if (t_chain o_lt o_lt (s_cmp _ _) (s_cmp _ _) (toB (e_binB op_sub s_sub (toB e_int) (toB e_int))) (b_look (i := 0)) (toB e_int)) (ss_one (s_ret (n_box (n_lst (a_cons (e_bi call_abs s_abs fx.f_abs (by kernel_rfl) (ab_cons (b_look (i := 0)) ab_nil)) (a_cons e_int (a_cons e_int a_nil))))))) ss_nil)
    (ss_one (s_ret (n_box (n_lst (a_cons (e_var (i := 0)) (a_cons (e_binB op_addAll (s_add hK) (toB e_int) (toB (e_binB op_modN s_mod (toB (e_biT call_intAll s_int fx.f_int (by kernel_rfl) (ab_cons (b_look (i := 0)) ab_nil))) (toB e_int)))) (a_cons (e_biT call_intAll s_int fx.f_int (by kernel_rfl) (ab_cons (toB (e_cmp o_ge (s_cmp _ _) (b_look (i := 0)) (toB (e_binB op_pow s_pow (toB e_int) (toB e_int))))) ab_nil)) a_nil))))))))
/-! _law_roll -/
def s__law_roll_0 (again : FM) : SM :=
  (sKl [2] (sIf (tOrM (tB1 (eBin opEq (eBin opIx (eLook 0) (eC (.int 2))) (eC (.int 2)))) (tAndM (tB1 (eBin opEq (eBin opIx (eLook 0) (eC (.int 2))) (eC (.int 1)))) (tB1 (eBin opGt (eBin opIx (eLook 0) (eC (.int 0))) (eC (.int 0)))))) (sSeq (sSet 2 (eBin opMod (eBi bInt (aCons (eBin opIx (eLook 0) (eC (.int 0))) aNil)) (eLook 1)))
    (sSeq (sPut 0 (eC (.int 0)) (eBin opDiv (eBin opIx (eLook 0) (eC (.int 0))) (eLook 1)))
    (sRet (eVar 2)))) sNx))
def s__law_roll_1 (again : FM) : SM :=
  (sPut 0 (eC (.int 2)) (eC (.int 0)))
def s__law_roll_2 (again : FM) : SM :=
  (sIf (tB1 (eBin opGt (eLook 1) (eC (.int 100000000)))) (sRet (eBin opMod (eBi bInt (aCons (eBin opAdd (eBin opMul (eCall 2 again (aCons (eVar 0) (aCons (eBin opAdd (eBin opDiv (eLook 1) (eC (.int 100000000))) (eC (.int 1))) aNil))) (eC (.int 100000000))) (eCall 2 again (aCons (eVar 0) (aCons (eC (.int 100000000)) aNil)))) aNil)) (eLook 1))) sNx)
def s__law_roll_3 (again : FM) : SM :=
  (sPut 0 (eC (.int 0)) (eBin opMod (eBi bInt (aCons (eBin opAdd (eBin opAdd (eBin opMul (eBin opIx (eLook 0) (eC (.int 0))) (eC (.int 48271))) (eBin opMul (eBin opIx (eLook 0) (eC (.int 1))) (eC (.int 69621)))) (eC (.int 11))) aNil)) (eC (.int 2147483647))))
def s__law_roll_4 (again : FM) : SM :=
  (sPut 0 (eC (.int 1)) (eBin opAdd (eBin opIx (eLook 0) (eC (.int 1))) (eC (.int 1))))
def s__law_roll_5 (again : FM) : SM :=
  (sRet (eBin opMod (eBi bInt (aCons (eBin opDiv (eBin opIx (eLook 0) (eC (.int 0))) (eC (.int 7))) aNil)) (eLook 1)))
def b__law_roll (again : FM) : SM :=
  (sSeq (s__law_roll_0 again)
    (sSeq (s__law_roll_1 again)
    (sSeq (s__law_roll_2 again)
    (sSeq (s__law_roll_3 again)
    (sSeq (s__law_roll_4 again)
    (s__law_roll_5 again))))))
def n__law_roll : Nat → FM
  | 0 => mBad
  | d + 1 => mkF 3 (b__law_roll (n__law_roll d))
def m__law_roll : FM := n__law_roll 1
theorem sc__law_roll : FnScope ["dice", "many", "found"] ["dice", "many"] (defScope (top 34)) := ⟨rfl, rfl, rfl, by decide +kernel, rfl, by decide +kernel, by decide +kernel⟩
theorem zn__law_roll (fx : Fx P w K mg base G) : ∀ d, FnZ P w K mg base G (0 + 1 + d) "_law_roll" 2 (n__law_roll d)
  | 0 => by
    obtain ⟨f, fd, F, gm⟩ := fx.d__law_roll
    exact (fn_never F sc__law_roll gm rfl (fun _ _ _ _ _ _ us hl => match us, hl with | [_, _], _ => rfl)).up (Nat.zero_le _)
  | d + 1 => by
    have ih := zn__law_roll fx d
    obtain ⟨f, fd, F, gm⟩ := fx.d__law_roll
    have hK := fx.hK
    refine ⟨⟨f, fd, _, rfl, fn_ok (k := 0 + 1 + d) F sc__law_roll (fun W c A outer s H E hcode hr0 => ?_), gm, F.kp, F.bindsN fun _ _ _ _ _ _ us hl => match us, hl with | [_, _], _ => rfl⟩⟩
    have hN : List.Nodup (["dice", "many", "found"] : List Str) := by decide +kernel
    have hr := hr0
    exact (ss_cons (s_kl (s_if (PW.pt (w_or (t_cmp (oEq hr) (s_eq hK) (toB (e_ix hK (b_look (i := 0)) e_int)) (toB e_int)) (w_or1 (PW.pt (w_and (t_cmp (oEq hr) (s_eq hK) (toB (e_ix hK (b_look (i := 0)) e_int)) (toB e_int)) (w_and1 (t_cmp o_gt (s_cmp _ _) (toB (e_ix hK (b_look (i := 0)) e_int)) (toB e_int)))))))) (ss_cons (s_set (i := 2) hN (e_binB op_modN s_mod (toB (e_biT call_intAll s_int fx.f_int (by kernel_rfl) (ab_cons (toB (e_ix hK (b_look (i := 0)) e_int)) ab_nil))) (b_look (i := 1))))
    (ss_cons (s_put (i := 0) e_int (e_binB op_fdivN s_div (toB (e_ix hK (b_look (i := 0)) e_int)) (b_look (i := 1))))
    (ss_one (s_ret (e_var (i := 2)))))) ss_nil))
    (ss_cons (s_put (i := 0) e_int e_int)
    (ss_cons (s_if (t_cmp o_gt (s_cmp _ _) (b_look (i := 1)) (toB e_int)) (ss_one (s_ret (e_binB op_modN s_mod (toB (e_biT call_intAll s_int fx.f_int (by kernel_rfl) (ab_cons (toB (e_binB op_addAll (s_add hK) (toB (e_binB op_mulAll s_mul (toB (e_call ih hr takes_fn (a_cons (e_var (i := 0)) (a_cons (e_binB op_addAll (s_add hK) (toB (e_binB op_fdivN s_div (b_look (i := 1)) (toB e_int))) (toB e_int)) a_nil)) (hk := by omega))) (toB e_int))) (toB (e_call ih hr takes_fn (a_cons (e_var (i := 0)) (a_cons e_int a_nil)) (hk := by omega))))) ab_nil))) (b_look (i := 1))))) ss_nil)
    (ss_cons (s_put (i := 0) e_int (e_binB op_modN s_mod (toB (e_biT call_intAll s_int fx.f_int (by kernel_rfl) (ab_cons (toB (e_binB op_addAll (s_add hK) (toB (e_binB op_addAll (s_add hK) (toB (e_binB op_mulAll s_mul (toB (e_ix hK (b_look (i := 0)) e_int)) (toB e_int))) (toB (e_binB op_mulAll s_mul (toB (e_ix hK (b_look (i := 0)) e_int)) (toB e_int))))) (toB e_int))) ab_nil))) (toB e_int)))
    (ss_cons (s_put (i := 0) e_int (e_binB op_addAll (s_add hK) (toB (e_ix hK (b_look (i := 0)) e_int)) (toB e_int)))
    (ss_one (s_ret (e_binB op_modN s_mod (toB (e_biT call_intAll s_int fx.f_int (by kernel_rfl) (ab_cons (toB (e_binB op_fdivN s_div (toB (e_ix hK (b_look (i := 0)) e_int)) (toB e_int))) ab_nil))) (b_look (i := 1))))))))))
theorem z__law_roll (fx : Fx P w K mg base G) : FnZ P w K mg base G 2 "_law_roll" 2 m__law_roll := zn__law_roll fx 1
/-! _law_rounds -/
def b__law_rounds : SM :=
  (sSeq (sSet 2 (eSl (eLook 0) pNo (pAt (eVar 1))))
    (sSeq (sIf (tB1 (eBin opEq (eLook 2) (eLst aNil))) (sSet 2 (eLst (aCons (eC (.int 0)) aNil))) sNx)
    (sRet (eLc (.n 3) [3] (iOf (eVar 2)) tYesM (eCall 1 m__law_dice (aCons (eVar 3) aNil))))))
def m__law_rounds : FM := mkF 4 b__law_rounds
theorem m__law_rounds_ap (a0 : D) (a1 : D) (h : Hc) : m__law_rounds [a0, a1] h = (b__law_rounds [.v a0, .v a1, .u, .u] h).toR := id rfl
theorem sc__law_rounds : FnScope ["script", "most", "cells", "cell"] ["script", "most"] (defScope (top 35)) := ⟨rfl, rfl, rfl, by decide +kernel, rfl, by decide +kernel, by decide +kernel⟩
theorem z__law_rounds (fx : Fx P w K mg base G) : FnZ P w K mg base G 2 "_law_rounds" 2 m__law_rounds := by
  obtain ⟨f, fd, F, gm⟩ := fx.d__law_rounds
  have hK := fx.hK
  rw [show m__law_rounds = mkF (["script", "most", "cells", "cell"] : List Str).length b__law_rounds from rfl]
  refine ⟨⟨f, fd, _, rfl, fn_ok (k := 1) F sc__law_rounds (fun W c A outer s H E hcode hr => ?_), gm, F.kp, F.bindsN fun _ _ _ _ _ _ us hl => match us, hl with | [_, _], _ => rfl⟩⟩
  have hN : List.Nodup (["script", "most", "cells", "cell"] : List Str) := by decide +kernel
  exact (ss_cons (s_set (i := 2) hN (e_sl hK (b_look (i := 0)) p_no (p_at (e_var (i := 1)))))
    (ss_cons (s_if (t_cmp (oEq hr) (s_eq hK) (b_look (i := 2)) (toB (n_e (n_lst a_nil)))) (ss_one (s_set (i := 2) hN (n_e (n_lst (a_cons e_int a_nil))))) ss_nil)
    (ss_one (s_ret (n_e (n_lc [("cell", 3)] rfl hN (i_of hK (e_var (i := 2))) (blkOk_by (by kernel_rfl)) (fun _ _ _ _ _ => (g_name hN)) (fun _ _ _ _ _ => t_yes) (fun _ _ _ _ _ => (e_call (z__law_dice fx) hr takes0 (a_cons (e_var (i := 3)) a_nil) (hk := by omega)))))))))

/-! _law_power -/
def b__law_power_0 : SM :=
  (sKl [2] (sSet 1 (eBin opMul (eLook 1) (eC (.int 2)))))
def b__law_power : SM :=
  (sSeq (sSet 1 (eC (.int 1)))
    (sSeq (sFor (.n 2) (iR1 (aCons (eVar 0) aNil)) b__law_power_0)
    (sRet (eVar 1))))
def m__law_power : FM := mkF 3 b__law_power
theorem m__law_power_ap (a0 : D) (h : Hc) : m__law_power [a0] h = (b__law_power [.v a0, .u, .u] h).toR := id rfl
theorem sc__law_power : FnScope ["many", "found", "turn"] ["many"] (defScope (top 37)) := ⟨rfl, rfl, rfl, by decide +kernel, rfl, by decide +kernel, by decide +kernel⟩
theorem z__law_power (fx : Fx P w K mg base G) : FnZ P w K mg base G 1 "_law_power" 1 m__law_power := by
  obtain ⟨f, fd, F, gm⟩ := fx.d__law_power
  have hK := fx.hK
  rw [show m__law_power = mkF (["many", "found", "turn"] : List Str).length b__law_power from rfl]
  refine ⟨⟨f, fd, _, rfl, fn_ok (k := 0) F sc__law_power (fun W c A outer s H E hcode hr => ?_), gm, F.kp, F.bindsN fun _ _ _ _ _ _ us hl => match us, hl with | [_], _ => rfl⟩⟩
  have hN : List.Nodup (["many", "found", "turn"] : List Str) := by decide +kernel
  exact (ss_cons (s_set (i := 1) hN e_int)
    (ss_cons (s_for owns_fn rfl (g_name hN) (i_r1 fx.f_range (a_cons (e_var (i := 0)) a_nil)) (ss_kl (ss_one (s_set (i := 1) hN (e_binB op_mulAll s_mul (b_look (i := 1)) (toB e_int))))))
    (ss_one (s_ret (e_var (i := 1))))))
/-! _law_bits -/
def b__law_bits : SM :=
  (sRet (eM1 mJoin (eC (.str [])) (eLc (.n 3) [3] (iR1 (aCons (eBin opAdd (eLook 1) (eCall 2 m__law_roll (aCons (eVar 0) (aCons (eVar 2) aNil)))) aNil)) tYesM (eBin opIx (eC (.str [48, 49])) (eCall 2 m__law_roll (aCons (eVar 0) (aCons (eC (.int 2)) aNil)))))))
def m__law_bits : FM := mkF 4 b__law_bits
theorem m__law_bits_ap (a0 : D) (a1 : D) (a2 : D) (h : Hc) : m__law_bits [a0, a1, a2] h = (b__law_bits [.v a0, .v a1, .v a2, .u] h).toR := id rfl
theorem sc__law_bits : FnScope ["dice", "least", "most", "k"] ["dice", "least", "most"] (defScope (top 38)) := ⟨rfl, rfl, rfl, by decide +kernel, rfl, by decide +kernel, by decide +kernel⟩
theorem z__law_bits (fx : Fx P w K mg base G) : FnZ P w K mg base G 3 "_law_bits" 3 m__law_bits := by
  obtain ⟨f, fd, F, gm⟩ := fx.d__law_bits
  have hK := fx.hK
  rw [show m__law_bits = mkF (["dice", "least", "most", "k"] : List Str).length b__law_bits from rfl]
  refine ⟨⟨f, fd, _, rfl, fn_ok (k := 2) F sc__law_bits (fun W c A outer s H E hcode hr => ?_), gm, F.kp, F.bindsN fun _ _ _ _ _ _ us hl => match us, hl with | [_, _, _], _ => rfl⟩⟩
  have hN : List.Nodup (["dice", "least", "most", "k"] : List Str) := by decide +kernel
  exact (ss_one (s_ret (e_m1 (s_join hK) PySem.F.slot_str_join PySem.F.type_str_join mt_join (e_str (l := [])) (toB (n_e (n_lc [("k", 3)] rfl hN (i_r1 fx.f_range (a_cons (e_binB op_addAll (s_add hK) (b_look (i := 1)) (toB (e_call (z__law_roll fx) hr takes_fn (a_cons (e_var (i := 0)) (a_cons (e_var (i := 2)) a_nil)) (hk := by omega)))) a_nil)) (blkOk_by (by kernel_rfl)) (fun _ _ _ _ _ => (g_name hN)) (fun _ _ _ _ _ => t_yes) (fun _ _ _ _ _ => (e_ix hK (toB (e_str (l := [48, 49]))) (e_call (z__law_roll fx) hr takes0 (a_cons (e_var (i := 0)) (a_cons e_int a_nil)) (hk := by omega))))))))))
/-! _law_xor -/
def b__law_xor : SM :=
  (sRet (eM1 mJoin (eC (.str [])) (eLc (.t [(.n 2), (.n 3)]) [2, 3] (iZpS (aCons (eVar 0) (aCons (eVar 1) aNil))) tYesM (eBi bStr (aCons (eBi bInt (aCons (eBin opNe (eLook 2) (eLook 3)) aNil)) aNil)))))
def m__law_xor : FM := mkF 4 b__law_xor
theorem m__law_xor_ap (a0 : D) (a1 : D) (h : Hc) : m__law_xor [a0, a1] h = (b__law_xor [.v a0, .v a1, .u, .u] h).toR := id rfl
theorem sc__law_xor : FnScope ["one", "other", "a", "b"] ["one", "other"] (defScope (top 39)) := ⟨rfl, rfl, rfl, by decide +kernel, rfl, by decide +kernel, by decide +kernel⟩
theorem z__law_xor (fx : Fx P w K mg base G) : FnZ P w K mg base G 1 "_law_xor" 2 m__law_xor := by
  obtain ⟨f, fd, F, gm⟩ := fx.d__law_xor
  have hK := fx.hK
  rw [show m__law_xor = mkF (["one", "other", "a", "b"] : List Str).length b__law_xor from rfl]
  refine ⟨⟨f, fd, _, rfl, fn_ok (k := 0) F sc__law_xor (fun W c A outer s H E hcode hr => ?_), gm, F.kp, F.bindsN fun _ _ _ _ _ _ us hl => match us, hl with | [_, _], _ => rfl⟩⟩
  have hN : List.Nodup (["one", "other", "a", "b"] : List Str) := by decide +kernel
  exact (ss_one (s_ret (e_m1 (s_join hK) PySem.F.slot_str_join PySem.F.type_str_join mt_join (e_str (l := [])) (toB (n_e (n_lc [("a", 2), ("b", 3)] rfl hN (i_zpS fx.f_zip (a_cons (e_var (i := 0)) (a_cons (e_var (i := 1)) a_nil))) (blkOk_by (by kernel_rfl)) (fun _ _ _ _ _ => (g_tup hK rfl (gs_cons (g_name hN) (gs_cons (g_name hN) gs_nil)))) (fun _ _ _ _ _ => t_yes) (fun _ _ _ _ _ => (e_biT call_str_int s_str fx.f_str (by kernel_rfl) (ab_cons (toB (e_biT call_intAll s_int fx.f_int (by kernel_rfl) (ab_cons (toB (e_cmp (oNe hr) (s_ne hK) (b_look (i := 2)) (b_look (i := 3)))) ab_nil))) ab_nil)))))))))
/-! _law_rest -/
def b__law_rest_0 : SM :=
  (sKl [3, 4] (sSeq (sPar 4 2 (vE (eBin opIx (eLook 2) (eC (.int 0)))) (vE (eBin opAdd (eSl (eLook 2) (pAt (eC (.int 1))) pNo) (eLook 3))))
    (sSet 2 (eIf (tB1 (eBin opEq (eLook 4) (eC (.str [49])))) (eCall 2 m__law_xor (aCons (eVar 2) (aCons (eSl (eLook 1) (pAt (eC (.int 1))) pNo) aNil))) (eVar 2)))))
def b__law_rest : SM :=
  (sSeq (sSet 2 (eBin opMul (eC (.str [48])) (eBin opSub (eBi bLen (aCons (eLook 1) aNil)) (eC (.int 1)))))
    (sSeq (sFor (.n 3) (iOf (eVar 0)) b__law_rest_0)
    (sRet (eVar 2))))
def m__law_rest : FM := mkF 5 b__law_rest
theorem m__law_rest_ap (a0 : D) (a1 : D) (h : Hc) : m__law_rest [a0, a1] h = (b__law_rest [.v a0, .v a1, .u, .u, .u] h).toR := id rfl
theorem sc__law_rest : FnScope ["bits", "by", "held", "bit", "out"] ["bits", "by"] (defScope (top 40)) := ⟨rfl, rfl, rfl, by decide +kernel, rfl, by decide +kernel, by decide +kernel⟩
theorem z__law_rest (fx : Fx P w K mg base G) : FnZ P w K mg base G 2 "_law_rest" 2 m__law_rest := by
  obtain ⟨f, fd, F, gm⟩ := fx.d__law_rest
  have hK := fx.hK
  rw [show m__law_rest = mkF (["bits", "by", "held", "bit", "out"] : List Str).length b__law_rest from rfl]
  refine ⟨⟨f, fd, _, rfl, fn_ok (k := 1) F sc__law_rest (fun W c A outer s H E hcode hr => ?_), gm, F.kp, F.bindsN fun _ _ _ _ _ _ us hl => match us, hl with | [_, _], _ => rfl⟩⟩
  have hN : List.Nodup (["bits", "by", "held", "bit", "out"] : List Str) := by decide +kernel
  exact (ss_cons (s_set (i := 2) hN (e_binB op_mulAll s_mul (toB (e_str (l := [48]))) (toB (e_binB op_sub s_sub (toB (e_bi call_len (s_len hK) fx.f_len (by kernel_rfl) (ab_cons (b_look (i := 1)) ab_nil))) (toB e_int)))))
    (ss_cons (s_for owns_fn rfl (g_name hN) (i_of hK (e_var (i := 0))) (ss_kl (ss_cons (s_par (i := 4) (j := 2) rfl hN (v_e (e_ix hK (b_look (i := 2)) e_int)) (v_e (e_binB op_addAll (s_add hK) (toB (e_sl hK (b_look (i := 2)) (p_at e_int) p_no)) (b_look (i := 3)))))
    (ss_one (s_set (i := 2) hN (e_if (t_cmp (oEq hr) (s_eq hK) (b_look (i := 4)) (toB (e_str (l := [49])))) (e_call (z__law_xor fx) hr takes_fn (a_cons (e_var (i := 2)) (a_cons (e_sl hK (b_look (i := 1)) (p_at e_int) p_no) a_nil)) (hk := by omega)) (e_var (i := 2))))))))
    (ss_one (s_ret (e_var (i := 2))))))
/-! _law_whole -/
def b__law_whole : SM :=
  (sRet (eBin opAdd (eLook 0) (eCall 2 m__law_rest (aCons (eBin opAdd (eLook 0) (eBin opMul (eC (.str [48])) (eBin opSub (eBi bLen (aCons (eLook 1) aNil)) (eC (.int 1))))) (aCons (eVar 1) aNil)))))
def m__law_whole : FM := mkF 2 b__law_whole
theorem m__law_whole_ap (a0 : D) (a1 : D) (h : Hc) : m__law_whole [a0, a1] h = (b__law_whole [.v a0, .v a1] h).toR := id rfl
theorem sc__law_whole : FnScope ["bits", "by"] ["bits", "by"] (defScope (top 41)) := ⟨rfl, rfl, rfl, by decide +kernel, rfl, by decide +kernel, by decide +kernel⟩
theorem z__law_whole (fx : Fx P w K mg base G) : FnZ P w K mg base G 3 "_law_whole" 2 m__law_whole := by
  obtain ⟨f, fd, F, gm⟩ := fx.d__law_whole
  have hK := fx.hK
  rw [show m__law_whole = mkF (["bits", "by"] : List Str).length b__law_whole from rfl]
  refine ⟨⟨f, fd, _, rfl, fn_ok (k := 2) F sc__law_whole (fun W c A outer s H E hcode hr => ?_), gm, F.kp, F.bindsN fun _ _ _ _ _ _ us hl => match us, hl with | [_, _], _ => rfl⟩⟩
  have hN : List.Nodup (["bits", "by"] : List Str) := by decide +kernel
  exact (ss_one (s_ret (e_binB op_addAll (s_add hK) (b_look (i := 0)) (toB (e_call (z__law_rest fx) hr takes_fn (a_cons (e_binB op_addAll (s_add hK) (b_look (i := 0)) (toB (e_binB op_mulAll s_mul (toB (e_str (l := [48]))) (toB (e_binB op_sub s_sub (toB (e_bi call_len (s_len hK) fx.f_len (by kernel_rfl) (ab_cons (b_look (i := 1)) ab_nil))) (toB e_int)))))) (a_cons (e_var (i := 1)) a_nil)) (hk := by omega))))))
/-! _law_two -/
def b__law_two_0 : SM :=
  (sKl [4] (sSeq (sSet 2 (eBin opMod (eBin opAdd (eLook 2) (eLook 4)) (eLook 1)))
    (sSet 3 (eBin opMod (eBin opAdd (eLook 3) (eLook 2)) (eLook 1)))))
def b__law_two : SM :=
  (sSeq (sPar 2 3 (vE (eBin opMod (eC (.int 1)) (eLook 1))) (vE (eC (.int 0))))
    (sSeq (sFor (.n 4) (iOf (eVar 0)) b__law_two_0)
    (sRet (eTup (aCons (eVar 2) (aCons (eVar 3) aNil))))))
def m__law_two : FM := mkF 5 b__law_two
theorem m__law_two_ap (a0 : D) (a1 : D) (h : Hc) : m__law_two [a0, a1] h = (b__law_two [.v a0, .v a1, .u, .u, .u] h).toR := id rfl
theorem sc__law_two : FnScope ["numbers", "size", "one", "other", "number"] ["numbers", "size"] (defScope (top 42)) := ⟨rfl, rfl, rfl, by decide +kernel, rfl, by decide +kernel, by decide +kernel⟩
theorem z__law_two (fx : Fx P w K mg base G) : FnZ P w K mg base G 1 "_law_two" 2 m__law_two := by
  obtain ⟨f, fd, F, gm⟩ := fx.d__law_two
  have hK := fx.hK
  rw [show m__law_two = mkF (["numbers", "size", "one", "other", "number"] : List Str).length b__law_two from rfl]
  refine ⟨⟨f, fd, _, rfl, fn_ok (k := 0) F sc__law_two (fun W c A outer s H E hcode hr => ?_), gm, F.kp, F.bindsN fun _ _ _ _ _ _ us hl => match us, hl with | [_, _], _ => rfl⟩⟩
  have hN : List.Nodup (["numbers", "size", "one", "other", "number"] : List Str) := by decide +kernel
  exact (ss_cons (s_par (i := 2) (j := 3) rfl hN (v_e (e_binB op_modN s_mod (toB e_int) (b_look (i := 1)))) (v_e e_int))
    (ss_cons (s_for owns_fn rfl (g_name hN) (i_of hK (e_var (i := 0))) (ss_kl (ss_cons (s_set (i := 2) hN (e_binB op_modN s_mod (toB (e_binB op_addAll (s_add hK) (b_look (i := 2)) (b_look (i := 4)))) (b_look (i := 1))))
    (ss_one (s_set (i := 3) hN (e_binB op_modN s_mod (toB (e_binB op_addAll (s_add hK) (b_look (i := 3)) (b_look (i := 2)))) (b_look (i := 1))))))))
    (ss_one (s_ret (e_tup (a_cons (e_var (i := 2)) (a_cons (e_var (i := 3)) a_nil)))))))
/-! _law_sets -/
def b__law_sets_0 : SM :=
  (sKl [4] (sSeq (sSet 2 (eSumL (eLc (.n 5) [5] (iOf (eVar 2)) tYesM (eLc (.n 6) [6] (iR1 (aCons (eVar 0) aNil)) (tOrM (tB1 (eBin opEq (eLook 5) (eTup aNil))) (tB1 (eBin opGt (eLook 6) (eBin opIx (eLook 5) (eNeg (eC (.int 1))))))) (eBin opAdd (eLook 5) (eTup (aCons (eVar 6) aNil)))))))
    (sSet 3 (eBin opAdd (eLook 3) (eLook 2)))))
def b__law_sets : SM :=
  (sSeq (sPar 2 3 (vE (eLst (aCons (eTup aNil) aNil))) (vE (eLst aNil)))
    (sSeq (sFor (.n 4) (iR1 (aCons (eVar 1) aNil)) b__law_sets_0)
    (sRet (eVar 3))))
def m__law_sets : FM := mkF 7 b__law_sets
theorem m__law_sets_ap (a0 : D) (a1 : D) (h : Hc) : m__law_sets [a0, a1] h = (b__law_sets [.v a0, .v a1, .u, .u, .u, .u, .u] h).toR := id rfl
theorem sc__law_sets : FnScope ["many", "most", "rows", "found", "turn", "row", "k"] ["many", "most"] (defScope (top 43)) := ⟨rfl, rfl, rfl, by decide +kernel, rfl, by decide +kernel, by decide +kernel⟩
theorem z__law_sets (fx : Fx P w K mg base G) : FnZ P w K mg base G 1 "_law_sets" 2 m__law_sets := by
  obtain ⟨f, fd, F, gm⟩ := fx.d__law_sets
  have hK := fx.hK
  rw [show m__law_sets = mkF (["many", "most", "rows", "found", "turn", "row", "k"] : List Str).length b__law_sets from rfl]
  refine ⟨⟨f, fd, _, rfl, fn_ok (k := 0) F sc__law_sets (fun W c A outer s H E hcode hr => ?_), gm, F.kp, F.bindsN fun _ _ _ _ _ _ us hl => match us, hl with | [_, _], _ => rfl⟩⟩
  have hN : List.Nodup (["many", "most", "rows", "found", "turn", "row", "k"] : List Str) := by decide +kernel
  exact (ss_cons (s_par (i := 2) (j := 3) rfl hN (v_e (n_e (n_lst (a_cons (e_tup a_nil) a_nil)))) (v_e (n_e (n_lst a_nil))))
    (ss_cons (s_for owns_fn rfl (g_name hN) (i_r1 fx.f_range (a_cons (e_var (i := 1)) a_nil)) (ss_kl (ss_cons (s_set (i := 2) hN (e_sumL rfl fx.f_sum (n_e (n_lc [("row", 5)] rfl hN (i_of hK (e_var (i := 2))) (blkOk_by (by kernel_rfl)) (fun _ _ _ _ _ => (g_name hN)) (fun _ _ _ _ _ => t_yes) (fun _ _ _ _ _ => (n_e (n_lc [("k", 6)] rfl hN (i_r1 fx.f_range (a_cons (e_var (i := 0)) a_nil)) (blkOk_by (by kernel_rfl)) (fun _ _ _ _ _ => (g_name hN)) (fun _ _ _ _ _ => (pts_one (PW.pt (w_or (t_cmp (oEq hr) (s_eq hK) (b_look (i := 5)) (toB (e_tup a_nil))) (w_or1 (t_cmp o_gt (s_cmp _ _) (b_look (i := 6)) (toB (e_ix hK (b_look (i := 5)) (e_neg e_int))))))))) (fun _ _ _ _ _ => (e_binB op_addAll (s_add hK) (b_look (i := 5)) (toB (e_tup (a_cons (e_var (i := 6)) a_nil))))))))))))
    (ss_one (s_set (i := 3) hN (e_binB op_addAll (s_add hK) (b_look (i := 3)) (b_look (i := 2))))))))
    (ss_one (s_ret (e_var (i := 3))))))
/-! _law_turn -/
def b__law_turn : SM :=
  (sRet (eBin opAdd (eBin opAdd (eSl (eLook 0) pNo (pAt (eVar 1))) (eBi bStr (aCons (eBin opSub (eC (.int 1)) (eBi bInt (aCons (eBin opIx (eLook 0) (eVar 1)) aNil))) aNil))) (eSl (eLook 0) (pAt (eBin opAdd (eLook 1) (eC (.int 1)))) pNo)))
def m__law_turn : FM := mkF 2 b__law_turn
theorem m__law_turn_ap (a0 : D) (a1 : D) (h : Hc) : m__law_turn [a0, a1] h = (b__law_turn [.v a0, .v a1] h).toR := id rfl
theorem sc__law_turn : FnScope ["bits", "place"] ["bits", "place"] (defScope (top 44)) := ⟨rfl, rfl, rfl, by decide +kernel, rfl, by decide +kernel, by decide +kernel⟩
theorem z__law_turn (fx : Fx P w K mg base G) : FnZ P w K mg base G 1 "_law_turn" 2 m__law_turn := by
  obtain ⟨f, fd, F, gm⟩ := fx.d__law_turn
  have hK := fx.hK
  rw [show m__law_turn = mkF (["bits", "place"] : List Str).length b__law_turn from rfl]
  refine ⟨⟨f, fd, _, rfl, fn_ok (k := 0) F sc__law_turn (fun W c A outer s H E hcode hr => ?_), gm, F.kp, F.bindsN fun _ _ _ _ _ _ us hl => match us, hl with | [_, _], _ => rfl⟩⟩
  have hN : List.Nodup (["bits", "place"] : List Str) := by decide +kernel
  exact (ss_one (s_ret (e_binB op_addAll (s_add hK) (toB (e_binB op_addAll (s_add hK) (toB (e_sl hK (b_look (i := 0)) p_no (p_at (e_var (i := 1))))) (toB (e_biT call_str_int s_str fx.f_str (by kernel_rfl) (ab_cons (toB (e_binB op_sub s_sub (toB e_int) (toB (e_biT call_intAll s_int fx.f_int (by kernel_rfl) (ab_cons (toB (e_ix hK (b_look (i := 0)) (e_var (i := 1)))) ab_nil))))) ab_nil))))) (toB (e_sl hK (b_look (i := 0)) (p_at (e_binB op_addAll (s_add hK) (b_look (i := 1)) (toB e_int))) p_no)))))
/-! _law_plain -/
def lm_0 (h : Hc) : R D := (eCall 4 m_joined_sums (aCons (eTup (aCons (eC (.int 1)) (aCons (eC (.int 1)) aNil))) (aCons (eTup (aCons (eC (.int 1)) (aCons (eC (.int 1)) aNil))) (aCons (eNeg (eC (.int 1))) (aCons (eC (.int 5)) aNil))))) [] h
theorem lz_0 (fx : Fx P w K mg base G) : LamZ P w K mg base G 12 0 lm_0 := by
  refine ⟨fun params body scope q hl => ?_⟩
  rw [show G.lam 0 = lamTab 0 from congrFun fx.lam 0] at hl
  obtain ⟨rfl, rfl, rfl, rfl⟩ := lamTab_in hl
  refine ⟨⟨rfl, rfl, rfl, by decide +kernel, rfl, by decide +kernel, by decide +kernel⟩, fun _ _ _ _ _ => rfl, fun W f c A outer s H E hr => ?_⟩
  exact (e_call (z_joined_sums fx) hr takes_fn (a_cons (e_tup (a_cons e_int (a_cons e_int a_nil))) (a_cons (e_tup (a_cons e_int (a_cons e_int a_nil))) (a_cons (e_neg e_int) (a_cons e_int a_nil)))) (hk := by omega))
def lm_1 (h : Hc) : R D := (eCall 2 m_two_sums (aCons (eTup (aCons (eC (.int 1)) aNil)) (aCons (eC (.int 0)) aNil))) [] h
theorem lz_1 (fx : Fx P w K mg base G) : LamZ P w K mg base G 12 1 lm_1 := by
  refine ⟨fun params body scope q hl => ?_⟩
  rw [show G.lam 1 = lamTab 1 from congrFun fx.lam 1] at hl
  obtain ⟨rfl, rfl, rfl, rfl⟩ := lamTab_in hl
  refine ⟨⟨rfl, rfl, rfl, by decide +kernel, rfl, by decide +kernel, by decide +kernel⟩, fun _ _ _ _ _ => rfl, fun W f c A outer s H E hr => ?_⟩
  exact (e_call (z_two_sums fx) hr takes_fn (a_cons (e_tup (a_cons e_int a_nil)) (a_cons e_int a_nil)) (hk := by omega))
def lm_2 (h : Hc) : R D := (eCall 2 m_two_sums (aCons (eTup (aCons (eNeg (eC (.int 1))) aNil)) (aCons (eC (.int 5)) aNil))) [] h
theorem lz_2 (fx : Fx P w K mg base G) : LamZ P w K mg base G 12 2 lm_2 := by
  refine ⟨fun params body scope q hl => ?_⟩
  rw [show G.lam 2 = lamTab 2 from congrFun fx.lam 2] at hl
  obtain ⟨rfl, rfl, rfl, rfl⟩ := lamTab_in hl
  refine ⟨⟨rfl, rfl, rfl, by decide +kernel, rfl, by decide +kernel, by decide +kernel⟩, fun _ _ _ _ _ => rfl, fun W f c A outer s H E hr => ?_⟩
  exact (e_call (z_two_sums fx) hr takes_fn (a_cons (e_tup (a_cons (e_neg e_int) a_nil)) (a_cons e_int a_nil)) (hk := by omega))
def lm_3 (h : Hc) : R D := (eCall 2 m_plain_sum (aCons (eTup (aCons (eC (.int 1)) aNil)) (aCons (eC (.int 0)) aNil))) [] h
theorem lz_3 (fx : Fx P w K mg base G) : LamZ P w K mg base G 12 3 lm_3 := by
  refine ⟨fun params body scope q hl => ?_⟩
  rw [show G.lam 3 = lamTab 3 from congrFun fx.lam 3] at hl
  obtain ⟨rfl, rfl, rfl, rfl⟩ := lamTab_in hl
  refine ⟨⟨rfl, rfl, rfl, by decide +kernel, rfl, by decide +kernel, by decide +kernel⟩, fun _ _ _ _ _ => rfl, fun W f c A outer s H E hr => ?_⟩
  exact (e_call (z_plain_sum fx) hr takes_fn (a_cons (e_tup (a_cons e_int a_nil)) (a_cons e_int a_nil)) (hk := by omega))
def lm_4 (h : Hc) : R D := (eCall 1 m_check_eights (aCons (eTup (aCons (eC (.int 256)) aNil)) aNil)) [] h
theorem lz_4 (fx : Fx P w K mg base G) : LamZ P w K mg base G 12 4 lm_4 := by
  refine ⟨fun params body scope q hl => ?_⟩
  rw [show G.lam 4 = lamTab 4 from congrFun fx.lam 4] at hl
  obtain ⟨rfl, rfl, rfl, rfl⟩ := lamTab_in hl
  refine ⟨⟨rfl, rfl, rfl, by decide +kernel, rfl, by decide +kernel, by decide +kernel⟩, fun _ _ _ _ _ => rfl, fun W f c A outer s H E hr => ?_⟩
  exact (e_call (z_check_eights fx) hr takes_fn (a_cons (e_tup (a_cons e_int a_nil)) a_nil) (hk := by omega))
def lm_5 (h : Hc) : R D := (eCall 2 m_rest (aCons (eC (.str [120])) (aCons (eC (.str [49, 49])) aNil))) [] h
theorem lz_5 (fx : Fx P w K mg base G) : LamZ P w K mg base G 12 5 lm_5 := by
  refine ⟨fun params body scope q hl => ?_⟩
  rw [show G.lam 5 = lamTab 5 from congrFun fx.lam 5] at hl
  obtain ⟨rfl, rfl, rfl, rfl⟩ := lamTab_in hl
  refine ⟨⟨rfl, rfl, rfl, by decide +kernel, rfl, by decide +kernel, by decide +kernel⟩, fun _ _ _ _ _ => rfl, fun W f c A outer s H E hr => ?_⟩
  exact (e_call (z_rest fx) hr takes_fn (a_cons (e_str (l := [120])) (a_cons (e_str (l := [49, 49])) a_nil)) (hk := by omega))
def lm_6 (h : Hc) : R D := (eCall 1 m_check_by (aCons (eC (.str [48, 49, 49])) aNil)) [] h
theorem lz_6 (fx : Fx P w K mg base G) : LamZ P w K mg base G 12 6 lm_6 := by
  refine ⟨fun params body scope q hl => ?_⟩
  rw [show G.lam 6 = lamTab 6 from congrFun fx.lam 6] at hl
  obtain ⟨rfl, rfl, rfl, rfl⟩ := lamTab_in hl
  refine ⟨⟨rfl, rfl, rfl, by decide +kernel, rfl, by decide +kernel, by decide +kernel⟩, fun _ _ _ _ _ => rfl, fun W f c A outer s H E hr => ?_⟩
  exact (e_call (z_check_by fx) hr takes_fn (a_cons (e_str (l := [48, 49, 49])) a_nil) (hk := by omega))
def lm_7 (h : Hc) : R D := (eCall 1 m_check_by (aCons (eC (.str [49])) aNil)) [] h
theorem lz_7 (fx : Fx P w K mg base G) : LamZ P w K mg base G 12 7 lm_7 := by
  refine ⟨fun params body scope q hl => ?_⟩
  rw [show G.lam 7 = lamTab 7 from congrFun fx.lam 7] at hl
  obtain ⟨rfl, rfl, rfl, rfl⟩ := lamTab_in hl
  refine ⟨⟨rfl, rfl, rfl, by decide +kernel, rfl, by decide +kernel, by decide +kernel⟩, fun _ _ _ _ _ => rfl, fun W f c A outer s H E hr => ?_⟩
  exact (e_call (z_check_by fx) hr takes_fn (a_cons (e_str (l := [49])) a_nil) (hk := by omega))
def lm_8 (h : Hc) : R D := (eCall 1 m_parity (aCons (eC (.str [50])) aNil)) [] h
theorem lz_8 (fx : Fx P w K mg base G) : LamZ P w K mg base G 12 8 lm_8 := by
  refine ⟨fun params body scope q hl => ?_⟩
  rw [show G.lam 8 = lamTab 8 from congrFun fx.lam 8] at hl
  obtain ⟨rfl, rfl, rfl, rfl⟩ := lamTab_in hl
  refine ⟨⟨rfl, rfl, rfl, by decide +kernel, rfl, by decide +kernel, by decide +kernel⟩, fun _ _ _ _ _ => rfl, fun W f c A outer s H E hr => ?_⟩
  exact (e_call (z_parity fx) hr takes_fn (a_cons (e_str (l := [50])) a_nil) (hk := by omega))
def lm_9 (h : Hc) : R D := (eCall 6 m_changed_sums (aCons (eTup (aCons (eC (.int 1)) (aCons (eC (.int 1)) aNil))) (aCons (eC (.int 2)) (aCons (eC (.int 2)) (aCons (eC (.int 1)) (aCons (eC (.int 1)) (aCons (eC (.int 5)) aNil))))))) [] h
theorem lz_9 (fx : Fx P w K mg base G) : LamZ P w K mg base G 12 9 lm_9 := by
  refine ⟨fun params body scope q hl => ?_⟩
  rw [show G.lam 9 = lamTab 9 from congrFun fx.lam 9] at hl
  obtain ⟨rfl, rfl, rfl, rfl⟩ := lamTab_in hl
  refine ⟨⟨rfl, rfl, rfl, by decide +kernel, rfl, by decide +kernel, by decide +kernel⟩, fun _ _ _ _ _ => rfl, fun W f c A outer s H E hr => ?_⟩
  exact (e_call (z_changed_sums fx) hr takes_fn (a_cons (e_tup (a_cons e_int (a_cons e_int a_nil))) (a_cons e_int (a_cons e_int (a_cons e_int (a_cons e_int (a_cons e_int a_nil)))))) (hk := by omega))
def lm_10 (h : Hc) : R D := (eCall 2 m_one_slip (aCons (eC (.str [])) (aCons (eC (.str [49, 48, 49, 49])) aNil))) [] h
theorem lz_10 (fx : Fx P w K mg base G) : LamZ P w K mg base G 12 10 lm_10 := by
  refine ⟨fun params body scope q hl => ?_⟩
  rw [show G.lam 10 = lamTab 10 from congrFun fx.lam 10] at hl
  obtain ⟨rfl, rfl, rfl, rfl⟩ := lamTab_in hl
  refine ⟨⟨rfl, rfl, rfl, by decide +kernel, rfl, by decide +kernel, by decide +kernel⟩, fun _ _ _ _ _ => rfl, fun W f c A outer s H E hr => ?_⟩
  exact (e_call (z_one_slip fx) hr takes_fn (a_cons (e_str (l := [])) (a_cons (e_str (l := [49, 48, 49, 49])) a_nil)) (hk := by omega))
def lm_11 (h : Hc) : R D := (eCall 3 m_slips_unseen (aCons (eC (.int 5)) (aCons (eC (.str [49, 49])) (aCons (eC (.int 4)) aNil)))) [] h
theorem lz_11 (fx : Fx P w K mg base G) : LamZ P w K mg base G 12 11 lm_11 := by
  refine ⟨fun params body scope q hl => ?_⟩
  rw [show G.lam 11 = lamTab 11 from congrFun fx.lam 11] at hl
  obtain ⟨rfl, rfl, rfl, rfl⟩ := lamTab_in hl
  refine ⟨⟨rfl, rfl, rfl, by decide +kernel, rfl, by decide +kernel, by decide +kernel⟩, fun _ _ _ _ _ => rfl, fun W f c A outer s H E hr => ?_⟩
  exact (e_call (z_slips_unseen fx) hr takes_fn (a_cons e_int (a_cons (e_str (l := [49, 49])) (a_cons e_int a_nil))) (hk := by omega))
def lm_12 (h : Hc) : R D := (eCall 3 m_slips_unseen (aCons (eC (.int 17)) (aCons (eC (.str [49, 49])) (aCons (eC (.int 1)) aNil)))) [] h
theorem lz_12 (fx : Fx P w K mg base G) : LamZ P w K mg base G 12 12 lm_12 := by
  refine ⟨fun params body scope q hl => ?_⟩
  rw [show G.lam 12 = lamTab 12 from congrFun fx.lam 12] at hl
  obtain ⟨rfl, rfl, rfl, rfl⟩ := lamTab_in hl
  refine ⟨⟨rfl, rfl, rfl, by decide +kernel, rfl, by decide +kernel, by decide +kernel⟩, fun _ _ _ _ _ => rfl, fun W f c A outer s H E hr => ?_⟩
  exact (e_call (z_slips_unseen fx) hr takes_fn (a_cons e_int (a_cons (e_str (l := [49, 49])) (a_cons e_int a_nil))) (hk := by omega))
def lm_13 (h : Hc) : R D := (eCall 3 m_rest_of_sum (aCons (eC (.str [49])) (aCons (eC (.str [49, 48])) (aCons (eC (.str [49, 48, 49, 49])) aNil)))) [] h
theorem lz_13 (fx : Fx P w K mg base G) : LamZ P w K mg base G 12 13 lm_13 := by
  refine ⟨fun params body scope q hl => ?_⟩
  rw [show G.lam 13 = lamTab 13 from congrFun fx.lam 13] at hl
  obtain ⟨rfl, rfl, rfl, rfl⟩ := lamTab_in hl
  refine ⟨⟨rfl, rfl, rfl, by decide +kernel, rfl, by decide +kernel, by decide +kernel⟩, fun _ _ _ _ _ => rfl, fun W f c A outer s H E hr => ?_⟩
  exact (e_call (z_rest_of_sum fx) hr takes_fn (a_cons (e_str (l := [49])) (a_cons (e_str (l := [49, 48])) (a_cons (e_str (l := [49, 48, 49, 49])) a_nil))) (hk := by omega))
def lm_14 (h : Hc) : R D := (eCall 2 m_is_right (aCons (eC (.str [49])) (aCons (eC (.str [49, 48, 49, 49])) aNil))) [] h
theorem lz_14 (fx : Fx P w K mg base G) : LamZ P w K mg base G 12 14 lm_14 := by
  refine ⟨fun params body scope q hl => ?_⟩
  rw [show G.lam 14 = lamTab 14 from congrFun fx.lam 14] at hl
  obtain ⟨rfl, rfl, rfl, rfl⟩ := lamTab_in hl
  refine ⟨⟨rfl, rfl, rfl, by decide +kernel, rfl, by decide +kernel, by decide +kernel⟩, fun _ _ _ _ _ => rfl, fun W f c A outer s H E hr => ?_⟩
  exact (e_call (z_is_right fx) hr takes_fn (a_cons (e_str (l := [49])) (a_cons (e_str (l := [49, 48, 49, 49])) a_nil)) (hk := by omega))
def lm_15 (h : Hc) : R D := (eCall 2 m_told_rest (aCons (eC (.str [49])) (aCons (eC (.str [48, 49])) aNil))) [] h
theorem lz_15 (fx : Fx P w K mg base G) : LamZ P w K mg base G 12 15 lm_15 := by
  refine ⟨fun params body scope q hl => ?_⟩
  rw [show G.lam 15 = lamTab 15 from congrFun fx.lam 15] at hl
  obtain ⟨rfl, rfl, rfl, rfl⟩ := lamTab_in hl
  refine ⟨⟨rfl, rfl, rfl, by decide +kernel, rfl, by decide +kernel, by decide +kernel⟩, fun _ _ _ _ _ => rfl, fun W f c A outer s H E hr => ?_⟩
  exact (e_call (z_told_rest fx) hr takes_fn (a_cons (e_str (l := [49])) (a_cons (e_str (l := [48, 49])) a_nil)) (hk := by omega))
def lm_16 (h : Hc) : R D := (eCall 1 m_eights_of (aCons (eTup (aCons (eNeg (eC (.int 1))) aNil)) aNil)) [] h
theorem lz_16 (fx : Fx P w K mg base G) : LamZ P w K mg base G 12 16 lm_16 := by
  refine ⟨fun params body scope q hl => ?_⟩
  rw [show G.lam 16 = lamTab 16 from congrFun fx.lam 16] at hl
  obtain ⟨rfl, rfl, rfl, rfl⟩ := lamTab_in hl
  refine ⟨⟨rfl, rfl, rfl, by decide +kernel, rfl, by decide +kernel, by decide +kernel⟩, fun _ _ _ _ _ => rfl, fun W f c A outer s H E hr => ?_⟩
  exact (e_call (z_eights_of fx) hr takes_fn (a_cons (e_tup (a_cons (e_neg e_int) a_nil)) a_nil) (hk := by omega))
def lm_17 (h : Hc) : R D := (eCall 1 m_round_of (aCons (eC (.str [48])) aNil)) [] h
theorem lz_17 (fx : Fx P w K mg base G) : LamZ P w K mg base G 12 17 lm_17 := by
  refine ⟨fun params body scope q hl => ?_⟩
  rw [show G.lam 17 = lamTab 17 from congrFun fx.lam 17] at hl
  obtain ⟨rfl, rfl, rfl, rfl⟩ := lamTab_in hl
  refine ⟨⟨rfl, rfl, rfl, by decide +kernel, rfl, by decide +kernel, by decide +kernel⟩, fun _ _ _ _ _ => rfl, fun W f c A outer s H E hr => ?_⟩
  exact (e_call (z_round_of fx) hr takes_fn (a_cons (e_str (l := [48])) a_nil) (hk := by omega))
def lamM : Nat → Hc → R D := fun i => match i with
  | 0 => lm_0
  | 1 => lm_1
  | 2 => lm_2
  | 3 => lm_3
  | 4 => lm_4
  | 5 => lm_5
  | 6 => lm_6
  | 7 => lm_7
  | 8 => lm_8
  | 9 => lm_9
  | 10 => lm_10
  | 11 => lm_11
  | 12 => lm_12
  | 13 => lm_13
  | 14 => lm_14
  | 15 => lm_15
  | 16 => lm_16
  | 17 => lm_17
  | _ => fun _ => .bad
theorem lz_all (fx : Fx P w K mg base G) : ∀ i, LamZ P w K mg base G 12 i (lamM i) := fun i => match i with
  | 0 => lz_0 fx
  | 1 => lz_1 fx
  | 2 => lz_2 fx
  | 3 => lz_3 fx
  | 4 => lz_4 fx
  | 5 => lz_5 fx
  | 6 => lz_6 fx
  | 7 => lz_7 fx
  | 8 => lz_8 fx
  | 9 => lz_9 fx
  | 10 => lz_10 fx
  | 11 => lz_11 fx
  | 12 => lz_12 fx
  | 13 => lz_13 fx
  | 14 => lz_14 fx
  | 15 => lz_15 fx
  | 16 => lz_16 fx
  | 17 => lz_17 fx
  | n + 18 => ⟨fun _ _ _ _ hl => by
    rw [show G.lam (n + 18) = lamTab (n + 18) from congrFun fx.lam _] at hl
    cases hl⟩
def s__law_plain_0 : SM :=
  (sSet 0 (eLst (aCons (eCall 1 m_check_eights (aCons (eTup (aCons (eC (.int 0)) (aCons (eC (.int 255)) aNil))) aNil)) (aCons (eCall 2 m_plain_sum (aCons (eTup (aCons (eC (.int 5)) (aCons (eC (.int 9)) aNil))) (aCons (eC (.int 10)) aNil))) (aCons (eCall 2 m_two_sums (aCons (eTup (aCons (eC (.int 1)) (aCons (eC (.int 2)) (aCons (eC (.int 3)) aNil)))) (aCons (eC (.int 251)) aNil))) (aCons (eCall 2 m_two_sums (aCons (eTup aNil) (aCons (eC (.int 1)) aNil))) (aCons (eCall 4 m_joined_sums (aCons (eTup (aCons (eC (.int 4)) (aCons (eC (.int 7)) aNil))) (aCons (eTup (aCons (eC (.int 6)) (aCons (eC (.int 9)) aNil))) (aCons (eC (.int 2)) (aCons (eC (.int 251)) aNil))))) aNil)))))))
def s__law_plain_1 : SM :=
  (sSet 0 (eBin opAdd (eLook 0) (eLst (aCons (eCall 6 m_changed_sums (aCons (eTup (aCons (eC (.int 7)) (aCons (eC (.int 13)) aNil))) (aCons (eC (.int 3)) (aCons (eC (.int 1)) (aCons (eC (.int 2)) (aCons (eC (.int 9)) (aCons (eC (.int 251)) aNil))))))) (aCons (eCall 1 m_parity (aCons (eC (.str [49, 48, 49, 49])) aNil)) (aCons (eCall 1 m_parity (aCons (eC (.str [])) aNil)) (aCons (eCall 1 m_check_summed (aCons (eC (.str [48, 49])) aNil)) (aCons (eCall 1 m_check_by (aCons (eC (.str [49, 48, 49, 49])) aNil)) (aCons (eCall 2 m_rest (aCons (eC (.str [49, 49, 48, 49])) (aCons (eC (.str [49, 48, 49, 49])) aNil))) aNil)))))))))
def s__law_plain_2 : SM :=
  (sSet 0 (eBin opAdd (eLook 0) (eLst (aCons (eCall 2 m_without (aCons (eC (.str [49, 49, 48, 48])) (aCons (eC (.str [49, 48, 49, 48])) aNil))) (aCons (eCall 2 m_with_rest (aCons (eC (.str [49, 49, 48, 49])) (aCons (eC (.str [49, 48, 49, 49])) aNil))) (aCons (eCall 2 m_is_right (aCons (eC (.str [49, 49, 48, 49, 48, 48, 49])) (aCons (eC (.str [49, 48, 49, 49])) aNil))) (aCons (eCall 2 m_is_right (aCons (eC (.str [49, 49, 48, 49, 48, 48, 48])) (aCons (eC (.str [49, 48, 49, 49])) aNil))) aNil)))))))
def s__law_plain_3 : SM :=
  (sSet 0 (eBin opAdd (eLook 0) (eLst (aCons (eCall 3 m_rest_of_sum (aCons (eC (.str [48, 48, 49])) (aCons (eC (.str [49, 48, 49])) (aCons (eC (.str [49, 48, 49, 49])) aNil)))) (aCons (eSl (eCall 3 m_slips_unseen (aCons (eC (.int 7)) (aCons (eC (.str [49, 48, 49, 49])) (aCons (eC (.int 3)) aNil)))) pNo (pAt (eC (.int 3)))) (aCons (eCall 2 m_rest_alone (aCons (eC (.str [49, 48, 49, 49])) (aCons (eC (.str [49, 48, 49, 49])) aNil))) (aCons (eCall 2 m_some_places (aCons (eC (.int 3)) (aCons (eC (.int 2)) aNil))) (aCons (eCall 2 m_longer (aCons (eLst (aCons (eTup (aCons (eC (.int 0)) aNil)) aNil)) (aCons (eC (.int 3)) aNil))) aNil))))))))
def s__law_plain_4 : SM :=
  (sSet 0 (eBin opAdd (eLook 0) (eLst (aCons (eCall 2 m_one_slip (aCons (eC (.str [49, 49, 48, 49, 48, 48, 48])) (aCons (eC (.str [49, 48, 49, 49])) aNil))) (aCons (eCall 2 m_one_slip (aCons (eC (.str [49, 49, 48, 49, 48, 48, 49])) (aCons (eC (.str [49, 48, 49, 49])) aNil))) (aCons (eCall 2 m_one_slip (aCons (eC (.str [49, 49, 49, 49, 49, 49, 49, 49, 49, 49])) (aCons (eC (.str [49, 49])) aNil))) (aCons (eCall 1 m_round_of (aCons (eC (.str [49, 48, 49, 49])) aNil)) (aCons (eCall 1 m_round_of (aCons (eC (.str [49, 48])) aNil)) aNil))))))))
def s__law_plain_5 : SM :=
  (sSet 0 (eBin opAdd (eLook 0) (eLst (aCons (eCall 2 m_told_rest (aCons (eC (.str [49, 49, 48, 49])) (aCons (eC (.str [49, 48, 49, 49])) aNil))) (aCons (eCall 1 m_eights_of (aCons (eTup (aCons (eC (.int 3)) (aCons (eC (.int 255)) aNil))) aNil)) aNil)))))
def s__law_plain_6 : SM :=
  (sSet 1 (eLst (aCons (eC (.lam 4)) (aCons (eC (.lam 3)) (aCons (eC (.lam 2)) (aCons (eC (.lam 1)) (aCons (eC (.lam 0)) aNil)))))))
def s__law_plain_7 : SM :=
  (sSet 1 (eBin opAdd (eLook 1) (eLst (aCons (eC (.lam 9)) (aCons (eC (.lam 8)) (aCons (eC (.lam 7)) (aCons (eC (.lam 6)) (aCons (eC (.lam 5)) aNil))))))))
def s__law_plain_8 : SM :=
  (sSet 1 (eBin opAdd (eLook 1) (eLst (aCons (eC (.lam 14)) (aCons (eC (.lam 13)) (aCons (eC (.lam 12)) (aCons (eC (.lam 11)) (aCons (eC (.lam 10)) aNil))))))))
def s__law_plain_9 : SM :=
  (sSet 1 (eBin opAdd (eLook 1) (eLst (aCons (eC (.lam 17)) (aCons (eC (.lam 16)) (aCons (eC (.lam 15)) aNil))))))
def s__law_plain_10 : SM :=
  (sIf (tOrM (tB1 (eBin opNe (eLc (.t [(.n 2), (.n 3)]) [2, 3] (iEnA (aCons (eVar 1) aNil)) (tB1 (eBin opNe (eToldL subE [83, 117, 109, 69, 114, 114, 111, 114] lamM (eVar 3)) (eC (.str [83, 117, 109, 69, 114, 114, 111, 114])))) (eVar 2)) (eLst aNil))) (tB1 (eBin opNe (eC (.int 400)) (eC (.int 400))))) (sRet (eC (.bl false))) sNx)
def s__law_plain_11 : SM :=
  (sSet 4 (eLst (aCons (eC .non) (aCons (eC (.int 4)) (aCons (eTup (aCons (eC (.int 7)) (aCons (eC (.int 13)) aNil))) (aCons (eTup (aCons (eC (.int 0)) (aCons (eC (.int 0)) aNil))) (aCons (eTup (aCons (eC (.int 9)) (aCons (eC (.int 22)) aNil))) (aCons (eTup (aCons (eC (.int 14)) (aCons (eC (.int 27)) aNil))) (aCons (eC (.str [49])) (aCons (eC (.str [48])) (aCons (eC .non) (aCons (eC .non) (aCons (eC (.str [48, 48, 49])) (aCons (eC (.str [48, 49, 49, 48])) (aCons (eC (.str [49, 49, 48, 49, 48, 48, 49])) (aCons (eC (.bl true)) (aCons (eC (.bl false)) (aCons (eC (.str [49, 48, 48])) (aCons (eTup (aCons (eTup (aCons (eC (.int 0)) (aCons (eC (.int 1)) (aCons (eC (.int 5)) aNil)))) (aCons (eTup (aCons (eC (.int 0)) (aCons (eC (.int 2)) (aCons (eC (.int 3)) aNil)))) (aCons (eTup (aCons (eC (.int 0)) (aCons (eC (.int 4)) (aCons (eC (.int 6)) aNil)))) aNil)))) (aCons (eC (.str [48, 48, 48])) (aCons (eLst (aCons (eTup (aCons (eC (.int 0)) aNil)) (aCons (eTup (aCons (eC (.int 1)) aNil)) (aCons (eTup (aCons (eC (.int 2)) aNil)) (aCons (eTup (aCons (eC (.int 0)) (aCons (eC (.int 1)) aNil))) (aCons (eTup (aCons (eC (.int 0)) (aCons (eC (.int 2)) aNil))) (aCons (eTup (aCons (eC (.int 1)) (aCons (eC (.int 2)) aNil))) aNil))))))) (aCons (eLst (aCons (eTup (aCons (eC (.int 0)) (aCons (eC (.int 1)) aNil))) (aCons (eTup (aCons (eC (.int 0)) (aCons (eC (.int 2)) aNil))) aNil))) (aCons (eC (.int 6)) (aCons (eNeg (eC (.int 1))) (aCons (eNeg (eC (.int 1))) (aCons (eC (.int 7)) (aCons (eC .non) (aCons (eC (.int 1)) (aCons (eC (.str [48, 48, 48, 48, 48, 48, 49, 49, 49, 49, 49, 49, 49, 49, 49, 49])) aNil)))))))))))))))))))))))))))))
def s__law_plain_12 : SM :=
  (sRet (eBin opEq (eLook 0) (eLook 4)))
def b__law_plain : SM :=
  (sSeq s__law_plain_0
    (sSeq s__law_plain_1
    (sSeq s__law_plain_2
    (sSeq s__law_plain_3
    (sSeq s__law_plain_4
    (sSeq s__law_plain_5
    (sSeq s__law_plain_6
    (sSeq s__law_plain_7
    (sSeq s__law_plain_8
    (sSeq s__law_plain_9
    (sSeq s__law_plain_10
    (sSeq s__law_plain_11
    s__law_plain_12))))))))))))
def m__law_plain : FM := mkF 5 b__law_plain
theorem m__law_plain_ap  (h : Hc) : m__law_plain [] h = (b__law_plain [.u, .u, .u, .u, .u] h).toR := id rfl
theorem sc__law_plain : FnScope ["told", "bad", "k", "f", "due"] [] (defScope (top 45)) := ⟨rfl, rfl, rfl, by decide +kernel, rfl, by decide +kernel, by decide +kernel⟩
theorem z__law_plain (fx : Fx P w K mg base G) : FnZ P w K mg base G 15 "_law_plain" 0 m__law_plain := by
  obtain ⟨f, fd, c0, P0, F, gm, hc0, TB, tab, uni⟩ := fx.d__law_plain
  have hK := fx.hK
  rw [show m__law_plain = mkF (["told", "bad", "k", "f", "due"] : List Str).length b__law_plain from rfl]
  refine ⟨⟨f, fd, _, rfl, fn_ok (k := 14) F sc__law_plain (fun W c A outer s H E hcode hr => ?_), gm, F.kp, F.bindsN fun _ _ _ _ _ _ us hl => match us, hl with | [], _ => rfl⟩⟩
  obtain rfl := same_code hc0 hcode
  have hN : List.Nodup (["told", "bad", "k", "f", "due"] : List Str) := by decide +kernel
  exact (ss_cons (s_set (i := 0) hN (n_e (n_lst (a_cons (e_call (z_check_eights fx) hr takes_fn (a_cons (e_tup (a_cons e_int (a_cons e_int a_nil))) a_nil) (hk := by omega)) (a_cons (e_call (z_plain_sum fx) hr takes_fn (a_cons (e_tup (a_cons e_int (a_cons e_int a_nil))) (a_cons e_int a_nil)) (hk := by omega)) (a_cons (e_call (z_two_sums fx) hr takes_fn (a_cons (e_tup (a_cons e_int (a_cons e_int (a_cons e_int a_nil)))) (a_cons e_int a_nil)) (hk := by omega)) (a_cons (e_call (z_two_sums fx) hr takes_fn (a_cons (e_tup a_nil) (a_cons e_int a_nil)) (hk := by omega)) (a_cons (e_call (z_joined_sums fx) hr takes_fn (a_cons (e_tup (a_cons e_int (a_cons e_int a_nil))) (a_cons (e_tup (a_cons e_int (a_cons e_int a_nil))) (a_cons e_int (a_cons e_int a_nil)))) (hk := by omega)) a_nil))))))))
    (ss_cons (s_set (i := 0) hN (e_binB op_addAll (s_add hK) (b_look (i := 0)) (toB (n_e (n_lst (a_cons (e_call (z_changed_sums fx) hr takes_fn (a_cons (e_tup (a_cons e_int (a_cons e_int a_nil))) (a_cons e_int (a_cons e_int (a_cons e_int (a_cons e_int (a_cons e_int a_nil)))))) (hk := by omega)) (a_cons (e_call (z_parity fx) hr takes_fn (a_cons (e_str (l := [49, 48, 49, 49])) a_nil) (hk := by omega)) (a_cons (e_call (z_parity fx) hr takes_fn (a_cons (e_str (l := [])) a_nil) (hk := by omega)) (a_cons (e_call (z_check_summed fx) hr takes_fn (a_cons (e_str (l := [48, 49])) a_nil) (hk := by omega)) (a_cons (e_call (z_check_by fx) hr takes_fn (a_cons (e_str (l := [49, 48, 49, 49])) a_nil) (hk := by omega)) (a_cons (e_call (z_rest fx) hr takes_fn (a_cons (e_str (l := [49, 49, 48, 49])) (a_cons (e_str (l := [49, 48, 49, 49])) a_nil)) (hk := by omega)) a_nil)))))))))))
    (ss_cons (s_set (i := 0) hN (e_binB op_addAll (s_add hK) (b_look (i := 0)) (toB (n_e (n_lst (a_cons (e_call (z_without fx) hr takes_fn (a_cons (e_str (l := [49, 49, 48, 48])) (a_cons (e_str (l := [49, 48, 49, 48])) a_nil)) (hk := by omega)) (a_cons (e_call (z_with_rest fx) hr takes_fn (a_cons (e_str (l := [49, 49, 48, 49])) (a_cons (e_str (l := [49, 48, 49, 49])) a_nil)) (hk := by omega)) (a_cons (e_call (z_is_right fx) hr takes_fn (a_cons (e_str (l := [49, 49, 48, 49, 48, 48, 49])) (a_cons (e_str (l := [49, 48, 49, 49])) a_nil)) (hk := by omega)) (a_cons (e_call (z_is_right fx) hr takes_fn (a_cons (e_str (l := [49, 49, 48, 49, 48, 48, 48])) (a_cons (e_str (l := [49, 48, 49, 49])) a_nil)) (hk := by omega)) a_nil)))))))))
    (ss_cons (s_set (i := 0) hN (e_binB op_addAll (s_add hK) (b_look (i := 0)) (toB (n_e (n_lst (a_cons (e_call (z_rest_of_sum fx) hr takes_fn (a_cons (e_str (l := [48, 48, 49])) (a_cons (e_str (l := [49, 48, 49])) (a_cons (e_str (l := [49, 48, 49, 49])) a_nil))) (hk := by omega)) (a_cons (e_sl hK (toB (e_call (z_slips_unseen fx) hr takes_fn (a_cons e_int (a_cons (e_str (l := [49, 48, 49, 49])) (a_cons e_int a_nil))) (hk := by omega))) p_no (p_at e_int)) (a_cons (e_call (z_rest_alone fx) hr takes_fn (a_cons (e_str (l := [49, 48, 49, 49])) (a_cons (e_str (l := [49, 48, 49, 49])) a_nil)) (hk := by omega)) (a_cons (e_call (z_some_places fx) hr takes_fn (a_cons e_int (a_cons e_int a_nil)) (hk := by omega)) (a_cons (e_call (z_longer fx) hr takes_fn (a_cons (n_e (n_lst (a_cons (e_tup (a_cons e_int a_nil)) a_nil))) (a_cons e_int a_nil)) (hk := by omega)) a_nil))))))))))
    (ss_cons (s_set (i := 0) hN (e_binB op_addAll (s_add hK) (b_look (i := 0)) (toB (n_e (n_lst (a_cons (e_call (z_one_slip fx) hr takes_fn (a_cons (e_str (l := [49, 49, 48, 49, 48, 48, 48])) (a_cons (e_str (l := [49, 48, 49, 49])) a_nil)) (hk := by omega)) (a_cons (e_call (z_one_slip fx) hr takes_fn (a_cons (e_str (l := [49, 49, 48, 49, 48, 48, 49])) (a_cons (e_str (l := [49, 48, 49, 49])) a_nil)) (hk := by omega)) (a_cons (e_call (z_one_slip fx) hr takes_fn (a_cons (e_str (l := [49, 49, 49, 49, 49, 49, 49, 49, 49, 49])) (a_cons (e_str (l := [49, 49])) a_nil)) (hk := by omega)) (a_cons (e_call (z_round_of fx) hr takes_fn (a_cons (e_str (l := [49, 48, 49, 49])) a_nil) (hk := by omega)) (a_cons (e_call (z_round_of fx) hr takes_fn (a_cons (e_str (l := [49, 48])) a_nil) (hk := by omega)) a_nil))))))))))
    (ss_cons (s_set (i := 0) hN (e_binB op_addAll (s_add hK) (b_look (i := 0)) (toB (n_e (n_lst (a_cons (e_call (z_told_rest fx) hr takes_fn (a_cons (e_str (l := [49, 49, 48, 49])) (a_cons (e_str (l := [49, 48, 49, 49])) a_nil)) (hk := by omega)) (a_cons (e_call (z_eights_of fx) hr takes_fn (a_cons (e_tup (a_cons e_int (a_cons e_int a_nil))) a_nil) (hk := by omega)) a_nil)))))))
    (ss_cons (s_set (i := 1) hN (n_e (n_lst (a_cons (e_lam (i := 4) (congrFun fx.lam 4) TB rfl tab uni) (a_cons (e_lam (i := 3) (congrFun fx.lam 3) TB rfl tab uni) (a_cons (e_lam (i := 2) (congrFun fx.lam 2) TB rfl tab uni) (a_cons (e_lam (i := 1) (congrFun fx.lam 1) TB rfl tab uni) (a_cons (e_lam (i := 0) (congrFun fx.lam 0) TB rfl tab uni) a_nil))))))))
    (ss_cons (s_set (i := 1) hN (e_binB op_addAll (s_add hK) (b_look (i := 1)) (toB (n_e (n_lst (a_cons (e_lam (i := 9) (congrFun fx.lam 9) TB rfl tab uni) (a_cons (e_lam (i := 8) (congrFun fx.lam 8) TB rfl tab uni) (a_cons (e_lam (i := 7) (congrFun fx.lam 7) TB rfl tab uni) (a_cons (e_lam (i := 6) (congrFun fx.lam 6) TB rfl tab uni) (a_cons (e_lam (i := 5) (congrFun fx.lam 5) TB rfl tab uni) a_nil))))))))))
    (ss_cons (s_set (i := 1) hN (e_binB op_addAll (s_add hK) (b_look (i := 1)) (toB (n_e (n_lst (a_cons (e_lam (i := 14) (congrFun fx.lam 14) TB rfl tab uni) (a_cons (e_lam (i := 13) (congrFun fx.lam 13) TB rfl tab uni) (a_cons (e_lam (i := 12) (congrFun fx.lam 12) TB rfl tab uni) (a_cons (e_lam (i := 11) (congrFun fx.lam 11) TB rfl tab uni) (a_cons (e_lam (i := 10) (congrFun fx.lam 10) TB rfl tab uni) a_nil))))))))))
    (ss_cons (s_set (i := 1) hN (e_binB op_addAll (s_add hK) (b_look (i := 1)) (toB (n_e (n_lst (a_cons (e_lam (i := 17) (congrFun fx.lam 17) TB rfl tab uni) (a_cons (e_lam (i := 16) (congrFun fx.lam 16) TB rfl tab uni) (a_cons (e_lam (i := 15) (congrFun fx.lam 15) TB rfl tab uni) a_nil))))))))
    (ss_cons (s_if (PW.pt (w_or (t_cmp (oNe hr) (s_ne hK) (toB (n_e (n_lc [("k", 2), ("f", 3)] rfl hN (i_enA hK fx.f_enumerate (a_cons (e_var (i := 1)) a_nil)) (blkOk_by (by kernel_rfl)) (fun _ _ _ _ _ => (g_tup hK rfl (gs_cons (g_name hN) (gs_cons (g_name hN) gs_nil)))) (fun _ _ _ _ _ => (pts_one (t_cmp (oNe hr) (s_ne hK) (toB (e_toldL (k := 12) (told_z (k := 12) fx rfl rfl) (hr.mono (by omega)) rfl fx.sub (lz_all fx) (e_var (i := 3)))) (toB (e_str (l := [83, 117, 109, 69, 114, 114, 111, 114])))))) (fun _ _ _ _ _ => (e_var (i := 2)))))) (toB (n_e (n_lst a_nil)))) (w_or1 (t_cmp (oNe hr) (s_ne hK) (toB (e_gint fx.c_MOST_SUMMED)) (toB e_int))))) (ss_one (s_ret e_bl)) ss_nil)
    (ss_cons (s_set (i := 4) hN (n_e (n_lst (a_cons e_non (a_cons e_int (a_cons (e_tup (a_cons e_int (a_cons e_int a_nil))) (a_cons (e_tup (a_cons e_int (a_cons e_int a_nil))) (a_cons (e_tup (a_cons e_int (a_cons e_int a_nil))) (a_cons (e_tup (a_cons e_int (a_cons e_int a_nil))) (a_cons (e_str (l := [49])) (a_cons (e_str (l := [48])) (a_cons e_non (a_cons e_non (a_cons (e_str (l := [48, 48, 49])) (a_cons (e_str (l := [48, 49, 49, 48])) (a_cons (e_str (l := [49, 49, 48, 49, 48, 48, 49])) (a_cons e_bl (a_cons e_bl (a_cons (e_str (l := [49, 48, 48])) (a_cons (e_tup (a_cons (e_tup (a_cons e_int (a_cons e_int (a_cons e_int a_nil)))) (a_cons (e_tup (a_cons e_int (a_cons e_int (a_cons e_int a_nil)))) (a_cons (e_tup (a_cons e_int (a_cons e_int (a_cons e_int a_nil)))) a_nil)))) (a_cons (e_str (l := [48, 48, 48])) (a_cons (n_e (n_lst (a_cons (e_tup (a_cons e_int a_nil)) (a_cons (e_tup (a_cons e_int a_nil)) (a_cons (e_tup (a_cons e_int a_nil)) (a_cons (e_tup (a_cons e_int (a_cons e_int a_nil))) (a_cons (e_tup (a_cons e_int (a_cons e_int a_nil))) (a_cons (e_tup (a_cons e_int (a_cons e_int a_nil))) a_nil)))))))) (a_cons (n_e (n_lst (a_cons (e_tup (a_cons e_int (a_cons e_int a_nil))) (a_cons (e_tup (a_cons e_int (a_cons e_int a_nil))) a_nil)))) (a_cons e_int (a_cons (e_neg e_int) (a_cons (e_neg e_int) (a_cons e_int (a_cons e_non (a_cons e_int (a_cons (e_str (l := [48, 48, 48, 48, 48, 48, 49, 49, 49, 49, 49, 49, 49, 49, 49, 49])) a_nil))))))))))))))))))))))))))))))
    (ss_one (s_ret (e_cmp (oEq hr) (s_eq hK) (b_look (i := 0)) (b_look (i := 4)))))))))))))))))
/-! law -/
def s_law_0 : SM :=
  (sTg (.t [(.n 10), (.n 11), (.n 12)]) (eTup (aCons (eLc (.n 27) [27] (iR1 (aCons (eCall 2 m__law_roll (aCons (eVar 1) (aCons (eC (.int 7)) aNil))) aNil)) tYesM (eCall 2 m__law_roll (aCons (eVar 1) (aCons (eC (.int 256)) aNil)))) (aCons (eLc (.n 27) [27] (iR1 (aCons (eCall 2 m__law_roll (aCons (eVar 1) (aCons (eC (.int 7)) aNil))) aNil)) tYesM (eCall 2 m__law_roll (aCons (eVar 1) (aCons (eC (.int 256)) aNil)))) (aCons (eBin opAdd (eC (.int 1)) (eCall 2 m__law_roll (aCons (eVar 1) (aCons (eC (.int 300)) aNil)))) aNil)))))
def s_law_1 : SM :=
  (sKl [11] (sIf (tOrM (tB1 (eBin opNe (eCall 2 m_plain_sum (aCons (eVar 10) (aCons (eVar 12) aNil))) (eBin opMod (eBi bSumA (aCons (eLook 10) aNil)) (eLook 12)))) (tOrM (tB1 (eBin opNe (eCall 2 m_two_sums (aCons (eVar 10) (aCons (eVar 12) aNil))) (eCall 2 m__law_two (aCons (eVar 10) (aCons (eVar 12) aNil))))) (tB1 (eBin opNe (eCall 4 m_joined_sums (aCons (eCall 2 m_two_sums (aCons (eVar 10) (aCons (eVar 12) aNil))) (aCons (eCall 2 m_two_sums (aCons (eVar 11) (aCons (eVar 12) aNil))) (aCons (eBi bLen (aCons (eLook 11) aNil)) (aCons (eVar 12) aNil))))) (eCall 2 m__law_two (aCons (eBin opAdd (eLook 10) (eLook 11)) (aCons (eVar 12) aNil))))))) (sRet (eC (.bl false))) sNx))
def s_law_2 : SM :=
  (sTg (.t [(.n 13), (.n 14)]) (eTup (aCons (eCall 2 m__law_roll (aCons (eVar 1) (aCons (eC (.int 8)) aNil))) (aCons (eCall 2 m__law_roll (aCons (eVar 1) (aCons (eC (.int 256)) aNil))) aNil))))
def s_law_3 : SM :=
  (sSet 2 (eBin opAdd (eBin opAdd (eSl (eLook 10) pNo (pAt (eVar 13))) (eLst (aCons (eVar 14) aNil))) (eSl (eLook 10) (pAt (eBin opAdd (eLook 13) (eC (.int 1)))) pNo)))
def s_law_4 : SM :=
  (sKl [2] (sSet 3 (eIf (tB1 (eBin opLt (eLook 13) (eBi bLen (aCons (eLook 10) aNil)))) (eCall 2 m__law_two (aCons (eVar 2) (aCons (eVar 12) aNil))) (eC (.str [83, 117, 109, 69, 114, 114, 111, 114])))))
def s_law_5 : SM :=
  (sKl [3, 10, 12, 13, 14] (sIf (tOrM (tB1 (eBin opNe (eTold subE [83, 117, 109, 69, 114, 114, 111, 114] (eCall 6 m_changed_sums (aCons (eCall 2 m_two_sums (aCons (eVar 10) (aCons (eVar 12) aNil))) (aCons (eBi bLen (aCons (eLook 10) aNil)) (aCons (eVar 13) (aCons (eBin opIx (eBin opAdd (eLook 10) (eBin opMul (eLst (aCons (eC (.int 0)) aNil)) (eC (.int 8)))) (eVar 13)) (aCons (eVar 14) (aCons (eVar 12) aNil)))))))) (eLook 3))) (tB1 (eBin opNe (eCall 1 m_eights_of (aCons (eVar 10) aNil)) (eM1 mJoin (eC (.str [])) (eLc (.n 20) [20] (iOf (eVar 10)) tYesM (eM1 mJoin (eC (.str [])) (eLc (.n 27) [27] (iR1 (aCons (eC (.int 8)) aNil)) tYesM (eBi bStr (aCons (eBin opMod (eBin opDiv (eLook 20) (eCall 1 m__law_power (aCons (eBin opSub (eC (.int 7)) (eLook 27)) aNil))) (eC (.int 2))) aNil))))))))) (sRet (eC (.bl false))) sNx))
def s_law_6 : SM :=
  (sTg (.t [(.n 15), (.n 16)]) (eTup (aCons (eBin opAdd (eC (.str [49])) (eCall 3 m__law_bits (aCons (eVar 1) (aCons (eC (.int 1)) (aCons (eC (.int 5)) aNil))))) (aCons (eCall 3 m__law_bits (aCons (eVar 1) (aCons (eC (.int 0)) (aCons (eC (.int 12)) aNil)))) aNil))))
def s_law_7 : SM :=
  (sTg (.t [(.n 17), (.n 18)]) (eTup (aCons (eCall 2 m__law_whole (aCons (eVar 16) (aCons (eVar 15) aNil))) (aCons (eBin opSub (eBi bLen (aCons (eLook 15) aNil)) (eC (.int 1))) aNil))))
def s_law_8 : SM :=
  (sKl [16, 17] (sIf (tOrM (tB1 (eBin opNe (eCall 2 m_with_rest (aCons (eVar 16) (aCons (eVar 15) aNil))) (eLook 17))) (tOrM (tB1 (eBin opNe (eCall 2 m_rest (aCons (eVar 16) (aCons (eVar 15) aNil))) (eSl (eLook 17) (pAt (eBi bLen (aCons (eLook 16) aNil))) pNo))) (tOrM (tNotM (tB1 (eCall 2 m_is_right (aCons (eVar 17) (aCons (eVar 15) aNil))))) (tOrM (tB1 (eBin opNe (eCall 1 m_parity (aCons (eVar 16) aNil)) (eBi bStr (aCons (eBin opMod (eM1 mCount (eVar 16) (eC (.str [49]))) (eC (.int 2))) aNil)))) (tB1 (eBin opNe (eCall 2 m_told_rest (aCons (eVar 16) (aCons (eVar 15) aNil))) (eBi bSumA (aCons (eLc (.t [(.n 27), (.n 28)]) [27, 28] (iEnSt (aCons (eRev (eSl (eLook 17) (pAt (eBi bLen (aCons (eLook 16) aNil))) pNo)) aNil)) tYesM (eBin opMul (eBi bInt (aCons (eLook 28) aNil)) (eCall 1 m__law_power (aCons (eVar 27) aNil)))) aNil)))))))) (sRet (eC (.bl false))) sNx))
def s_law_9 : SM :=
  (sSet 4 (eCall 3 m__law_bits (aCons (eVar 1) (aCons (eC (.int 0)) (aCons (eC (.int 12)) aNil)))))
def s_law_10 : SM :=
  (sSet 5 (eAnd (eBin opGe (eBi bLen (aCons (eLook 4) aNil)) (eLook 18)) (eBin opEq (eCall 2 m__law_whole (aCons (eSl (eLook 4) pNo (pAt (eBin opSub (eBi bLen (aCons (eLook 4) aNil)) (eLook 18)))) (aCons (eVar 15) aNil))) (eLook 4))))
def s_law_11 : SM :=
  (sIf (tOrM (tB1 (eBin opNe (eTold subE [83, 117, 109, 69, 114, 114, 111, 114] (eCall 2 m_is_right (aCons (eVar 4) (aCons (eVar 15) aNil)))) (eIf (tB1 (eBin opGe (eBi bLen (aCons (eLook 4) aNil)) (eLook 18))) (eVar 5) (eC (.str [83, 117, 109, 69, 114, 114, 111, 114]))))) (tB1 (eBin opNe (eCall 2 m_rest_alone (aCons (eVar 4) (aCons (eVar 15) aNil))) (eCall 2 m__law_rest (aCons (eVar 4) (aCons (eVar 15) aNil)))))) (sRet (eC (.bl false))) sNx)
def s_law_12 : SM :=
  (sKl [5, 19] (sKl [19] (sIf (tB1 (eBin opGe (eBi bLen (aCons (eLook 4) aNil)) (eLook 18))) (sSeq (sSet 19 (eLc (.n 27) [27] (iR1 (aCons (eBi bLen (aCons (eLook 4) aNil)) aNil)) (tB1 (eBin opEq (eCall 2 m__law_whole (aCons (eSl (eCall 2 m__law_turn (aCons (eVar 4) (aCons (eVar 27) aNil))) pNo (pAt (eBin opSub (eBi bLen (aCons (eLook 4) aNil)) (eLook 18)))) (aCons (eVar 15) aNil))) (eCall 2 m__law_turn (aCons (eVar 4) (aCons (eVar 27) aNil))))) (eVar 27)))
    (sKl [5, 19] (sIf (tB1 (eBin opNe (eCall 2 m_one_slip (aCons (eVar 4) (aCons (eVar 15) aNil))) (eIf (tB1 (eVar 5)) (eNeg (eC (.int 1))) (eIf (tB1 (eBin opEq (eBi bLen (aCons (eLook 19) aNil)) (eC (.int 1)))) (eBin opIx (eLook 19) (eC (.int 0))) (eC .non))))) (sRet (eC (.bl false))) sNx))) sNx)))
def s_law_13 : SM :=
  (sSet 6 (eCall 3 m__law_bits (aCons (eVar 1) (aCons (eC (.int 0)) (aCons (eC (.int 12)) aNil)))))
def s_law_14 : SM :=
  (sSet 7 (eBi bMax2 (aCons (eBi bLen (aCons (eLook 4) aNil)) (aCons (eBi bLen (aCons (eLook 6) aNil)) aNil))))
def s_law_15 : SM :=
  (sKl [4, 6, 7] (sTg (.l [(.n 20), (.n 21)]) (eLc (.n 26) [26] (iOf (eLst (aCons (eVar 4) (aCons (eVar 6) aNil)))) tYesM (eBin opAdd (eBin opMul (eC (.str [48])) (eBin opSub (eLook 7) (eBi bLen (aCons (eLook 26) aNil)))) (eLook 26)))))
def s_law_16 : SM :=
  (sKl [20, 21] (sIf (tOrM (tB1 (eBin opNe (eCall 3 m_rest_of_sum (aCons (eCall 2 m_rest (aCons (eVar 20) (aCons (eVar 15) aNil))) (aCons (eCall 2 m_rest (aCons (eVar 21) (aCons (eVar 15) aNil))) (aCons (eVar 15) aNil)))) (eCall 2 m_rest (aCons (eCall 2 m__law_xor (aCons (eVar 20) (aCons (eVar 21) aNil))) (aCons (eVar 15) aNil))))) (tB1 (eBin opNe (eCall 2 m_without (aCons (eVar 20) (aCons (eVar 21) aNil))) (eCall 2 m__law_xor (aCons (eVar 20) (aCons (eVar 21) aNil)))))) (sRet (eC (.bl false))) sNx))
def s_law_17 : SM :=
  (sTg (.t [(.n 22), (.n 23)]) (eTup (aCons (eBin opAdd (eC (.int 1)) (eCall 2 m__law_roll (aCons (eVar 1) (aCons (eC (.int 7)) aNil)))) (aCons (eBin opAdd (eC (.int 1)) (eCall 2 m__law_roll (aCons (eVar 1) (aCons (eC (.int 3)) aNil)))) aNil))))
def s_law_18 : SM :=
  (sSet 8 (eLc (.n 26) [26] (iOf (eCall 2 m__law_sets (aCons (eVar 22) (aCons (eVar 23) aNil)))) (tB1 (eBin opNotIn (eC (.str [49])) (eCall 2 m__law_rest (aCons (eM1 mJoin (eC (.str [])) (eLc (.n 27) [27] (iR1 (aCons (eVar 22) aNil)) tYesM (eBi bStr (aCons (eBi bInt (aCons (eBin opIn (eLook 27) (eLook 26)) aNil)) aNil)))) (aCons (eVar 15) aNil))))) (eVar 26)))
def s_law_19 : SM :=
  (sKl [8, 22, 23] (sIf (tOrM (tB1 (eBin opNe (eBi bList (aCons (eCall 3 m_slips_unseen (aCons (eVar 22) (aCons (eVar 15) (aCons (eVar 23) aNil)))) aNil)) (eLook 8))) (tOrM (tB1 (eBin opNe (eCall 2 m_some_places (aCons (eVar 22) (aCons (eVar 23) aNil))) (eCall 2 m__law_sets (aCons (eVar 22) (aCons (eVar 23) aNil))))) (tB1 (eBin opNe (eCall 2 m_longer (aCons (eLst (aCons (eTup (aCons (eC (.int 0)) aNil)) (aCons (eTup aNil) aNil))) (aCons (eVar 22) aNil))) (eBin opAdd (eLc (.n 27) [27] (iR2 (aCons (eC (.int 1)) (aCons (eVar 22) aNil))) tYesM (eTup (aCons (eC (.int 0)) (aCons (eVar 27) aNil)))) (eLc (.n 27) [27] (iR1 (aCons (eVar 22) aNil)) tYesM (eTup (aCons (eVar 27) aNil)))))))) (sRet (eC (.bl false))) sNx))
def s_law_20 : SM :=
  (sKl [18] (sSet 9 (eBin opAdd (eBin opMul (eC (.str [48])) (eBin opSub (eLook 18) (eC (.int 1)))) (eC (.str [49])))))
def s_law_21 : SM :=
  (sPar 24 25 (vE (eCall 2 m__law_rest (aCons (eBin opAdd (eLook 9) (eC (.str [48]))) (aCons (eVar 15) aNil)))) (vE (eC (.int 1))))
def b_law_22 : SM :=
  (sPar 24 25 (vE (eCall 2 m__law_rest (aCons (eBin opAdd (eLook 24) (eC (.str [48]))) (aCons (eVar 15) aNil)))) (vE (eBin opAdd (eLook 25) (eC (.int 1)))))
def s_law_23 : SM :=
  (sWhile 1000000 (tAndM (tB1 (eBin opNe (eLook 24) (eLook 9))) (tB1 (eBin opLt (eLook 25) (eC (.int 40))))) b_law_22)
def s_law_24 : SM :=
  (sKl [9, 15, 24, 25] (sIf (tB1 (eBin opNe (eCall 1 m_round_of (aCons (eVar 15) aNil)) (eIf (tB1 (eBin opEq (eLook 24) (eLook 9))) (eVar 25) (eC .non)))) (sRet (eC (.bl false))) sNx))
def b_law_25 : SM :=
  (sKl [1, 2, 3, 4, 5, 6, 7, 8, 9, 10, 11, 12, 13, 14, 15, 16, 17, 18, 19, 20, 21, 22, 23, 24, 25] (sSeq s_law_0
    (sSeq s_law_1
    (sSeq s_law_2
    (sSeq s_law_3
    (sSeq s_law_4
    (sSeq s_law_5
    (sSeq s_law_6
    (sSeq s_law_7
    (sSeq s_law_8
    (sSeq s_law_9
    (sSeq s_law_10
    (sSeq s_law_11
    (sSeq s_law_12
    (sSeq s_law_13
    (sSeq s_law_14
    (sSeq s_law_15
    (sSeq s_law_16
    (sSeq s_law_17
    (sSeq s_law_18
    (sSeq s_law_19
    (sSeq s_law_20
    (sSeq s_law_21
    (sSeq s_law_23
    s_law_24))))))))))))))))))))))))
def b_law : SM :=
  (sSeq (sKl [0] (sFor (.n 1) (iOf (eCall 2 m__law_rounds (aCons (eVar 0) (aCons (eC (.int 1)) aNil)))) b_law_25))
    (sRet (eCall 0 m__law_plain aNil)))
def m_law : FM := mkF 29 b_law
theorem m_law_ap (a0 : D) (h : Hc) : m_law [a0] h = (b_law [.v a0, .u, .u, .u, .u, .u, .u, .u, .u, .u, .u, .u, .u, .u, .u, .u, .u, .u, .u, .u, .u, .u, .u, .u, .u, .u, .u, .u, .u] h).toR := id rfl
theorem sc_law : FnScope ["script", "dice", "fresh", "due", "odd", "right", "other", "long", "unseen", "start", "first", "second", "size", "place", "new", "by", "bits", "whole", "many", "hits", "one", "two", "wide", "most", "here", "steps", "row", "k", "bit"] ["script"] (defScope (top 46)) := ⟨rfl, rfl, rfl, by decide +kernel, rfl, by decide +kernel, by decide +kernel⟩
theorem z_law (fx : Fx P w K mg base G) : FnL P w K mg base G 16 "law" "script" (top 46) m_law := by
  obtain ⟨f, fd, c0, P0, F, gm, hc0, TB, tab, uni⟩ := fx.d_law
  have hK := fx.hK
  rw [show m_law = mkF (["script", "dice", "fresh", "due", "odd", "right", "other", "long", "unseen", "start", "first", "second", "size", "place", "new", "by", "bits", "whole", "many", "hits", "one", "two", "wide", "most", "here", "steps", "row", "k", "bit"] : List Str).length b_law from rfl]
  refine ⟨f, fd, F, gm, fn_ok (k := 15) F sc_law (fun W c A outer s H E hcode hr => ?_)⟩
  obtain rfl := same_code hc0 hcode
  have hN : List.Nodup (["script", "dice", "fresh", "due", "odd", "right", "other", "long", "unseen", "start", "first", "second", "size", "place", "new", "by", "bits", "whole", "many", "hits", "one", "two", "wide", "most", "here", "steps", "row", "k", "bit"] : List Str) := by decide +kernel
  exact (ss_cons (s_kl (s_for owns_fn rfl (g_name hN) (i_of hK (e_call (z__law_rounds fx) hr takes_fn (a_cons (e_var (i := 0)) (a_cons e_int a_nil)) (hk := by omega))) (ss_kl (ss_cons (s_tg (e_tup (a_cons (n_e (n_lc [("k", 27)] rfl hN (i_r1 fx.f_range (a_cons (e_call (z__law_roll fx) hr takes_fn (a_cons (e_var (i := 1)) (a_cons e_int a_nil)) (hk := by omega)) a_nil)) (blkOk_by (by kernel_rfl)) (fun _ _ _ _ _ => (g_name hN)) (fun _ _ _ _ _ => t_yes) (fun _ _ _ _ _ => (e_call (z__law_roll fx) hr takes0 (a_cons (e_var (i := 1)) (a_cons e_int a_nil)) (hk := by omega))))) (a_cons (n_e (n_lc [("k", 27)] rfl hN (i_r1 fx.f_range (a_cons (e_call (z__law_roll fx) hr takes_fn (a_cons (e_var (i := 1)) (a_cons e_int a_nil)) (hk := by omega)) a_nil)) (blkOk_by (by kernel_rfl)) (fun _ _ _ _ _ => (g_name hN)) (fun _ _ _ _ _ => t_yes) (fun _ _ _ _ _ => (e_call (z__law_roll fx) hr takes0 (a_cons (e_var (i := 1)) (a_cons e_int a_nil)) (hk := by omega))))) (a_cons (e_binB op_addAll (s_add hK) (toB e_int) (toB (e_call (z__law_roll fx) hr takes_fn (a_cons (e_var (i := 1)) (a_cons e_int a_nil)) (hk := by omega)))) a_nil)))) (g_tup hK rfl (gs_cons (g_name hN) (gs_cons (g_name hN) (gs_cons (g_name hN) gs_nil)))))
    (ss_cons (s_kl (s_if (PW.pt (w_or (t_cmp (oNe hr) (s_ne hK) (toB (e_call (z_plain_sum fx) hr takes_fn (a_cons (e_var (i := 10)) (a_cons (e_var (i := 12)) a_nil)) (hk := by omega))) (toB (e_binB op_modN s_mod (toB (e_bi (cr_sumA rfl) (s_sumA hK) fx.f_sum (by kernel_rfl) (ab_cons (b_look (i := 10)) ab_nil))) (b_look (i := 12))))) (w_or (t_cmp (oNe hr) (s_ne hK) (toB (e_call (z_two_sums fx) hr takes_fn (a_cons (e_var (i := 10)) (a_cons (e_var (i := 12)) a_nil)) (hk := by omega))) (toB (e_call (z__law_two fx) hr takes_fn (a_cons (e_var (i := 10)) (a_cons (e_var (i := 12)) a_nil)) (hk := by omega)))) (w_or1 (t_cmp (oNe hr) (s_ne hK) (toB (e_call (z_joined_sums fx) hr takes_fn (a_cons (e_call (z_two_sums fx) hr takes_fn (a_cons (e_var (i := 10)) (a_cons (e_var (i := 12)) a_nil)) (hk := by omega)) (a_cons (e_call (z_two_sums fx) hr takes_fn (a_cons (e_var (i := 11)) (a_cons (e_var (i := 12)) a_nil)) (hk := by omega)) (a_cons (e_bi call_len (s_len hK) fx.f_len (by kernel_rfl) (ab_cons (b_look (i := 11)) ab_nil)) (a_cons (e_var (i := 12)) a_nil)))) (hk := by omega))) (toB (e_call (z__law_two fx) hr takes_fn (a_cons (e_binB op_addAll (s_add hK) (b_look (i := 10)) (b_look (i := 11))) (a_cons (e_var (i := 12)) a_nil)) (hk := by omega)))))))) (ss_one (s_ret e_bl)) ss_nil))
    (ss_cons (s_tg (e_tup (a_cons (e_call (z__law_roll fx) hr takes_fn (a_cons (e_var (i := 1)) (a_cons e_int a_nil)) (hk := by omega)) (a_cons (e_call (z__law_roll fx) hr takes_fn (a_cons (e_var (i := 1)) (a_cons e_int a_nil)) (hk := by omega)) a_nil))) (g_tup hK rfl (gs_cons (g_name hN) (gs_cons (g_name hN) gs_nil))))
    (ss_cons (s_set (i := 2) hN (e_binB op_addAll (s_add hK) (toB (e_binB op_addAll (s_add hK) (toB (e_sl hK (b_look (i := 10)) p_no (p_at (e_var (i := 13))))) (toB (n_e (n_lst (a_cons (e_var (i := 14)) a_nil)))))) (toB (e_sl hK (b_look (i := 10)) (p_at (e_binB op_addAll (s_add hK) (b_look (i := 13)) (toB e_int))) p_no))))
    (ss_cons (s_kl (s_set (i := 3) hN (e_if (t_cmp o_lt (s_cmp _ _) (b_look (i := 13)) (toB (e_bi call_len (s_len hK) fx.f_len (by kernel_rfl) (ab_cons (b_look (i := 10)) ab_nil)))) (e_call (z__law_two fx) hr takes_fn (a_cons (e_var (i := 2)) (a_cons (e_var (i := 12)) a_nil)) (hk := by omega)) (e_str (l := [83, 117, 109, 69, 114, 114, 111, 114])))))
    (ss_cons (s_kl (s_if (PW.pt (w_or (t_cmp (oNe hr) (s_ne hK) (toB (e_told (k := 3) (told_z (k := 3) fx rfl rfl) (hr.mono (by omega)) rfl fx.sub TB rfl tab uni (LamX.lamS_by (by kernel_rfl)) (fun _ _ _ _ _ _ _ hr3 => (e_call (z_changed_sums fx) hr3 takes_lam (a_cons (e_call (z_two_sums fx) hr3 takes_lam (a_cons (e_var (i := 10)) (a_cons (e_var (i := 12)) a_nil)) (hk := by omega)) (a_cons (e_bi call_len (s_len hK) fx.f_len (by kernel_rfl) (ab_cons (b_look (i := 10)) ab_nil)) (a_cons (e_var (i := 13)) (a_cons (e_ix hK (toB (e_binB op_addAll (s_add hK) (b_look (i := 10)) (toB (e_binB op_mulAll s_mul (toB (n_e (n_lst (a_cons e_int a_nil)))) (toB e_int))))) (e_var (i := 13))) (a_cons (e_var (i := 14)) (a_cons (e_var (i := 12)) a_nil)))))) (hk := by omega))))) (b_look (i := 3))) (w_or1 (t_cmp (oNe hr) (s_ne hK) (toB (e_call (z_eights_of fx) hr takes_fn (a_cons (e_var (i := 10)) a_nil) (hk := by omega))) (toB (e_m1 (s_join hK) PySem.F.slot_str_join PySem.F.type_str_join mt_join (e_str (l := [])) (toB (n_e (n_lc [("one", 20)] rfl hN (i_of hK (e_var (i := 10))) (blkOk_by (by kernel_rfl)) (fun _ _ _ _ _ => (g_name hN)) (fun _ _ _ _ _ => t_yes) (fun _ _ _ _ _ => (e_m1 (s_join hK) PySem.F.slot_str_join PySem.F.type_str_join mt_join (e_str (l := [])) (toB (n_e (n_lc [("k", 27)] rfl hN (i_r1 fx.f_range (a_cons e_int a_nil)) (blkOk_by (by kernel_rfl)) (fun _ _ _ _ _ => (g_name hN)) (fun _ _ _ _ _ => t_yes) (fun _ _ _ _ _ => (e_biT call_str_int s_str fx.f_str (by kernel_rfl) (ab_cons (toB (e_binB op_modN s_mod (toB (e_binB op_fdivN s_div (b_look (i := 20)) (toB (e_call (z__law_power fx) hr takes0 (a_cons (e_binB op_sub s_sub (toB e_int) (b_look (i := 27))) a_nil) (hk := by omega))))) (toB e_int))) ab_nil))))))))))))))))) (ss_one (s_ret e_bl)) ss_nil))
    (ss_cons (s_tg (e_tup (a_cons (e_binB op_addAll (s_add hK) (toB (e_str (l := [49]))) (toB (e_call (z__law_bits fx) hr takes_fn (a_cons (e_var (i := 1)) (a_cons e_int (a_cons e_int a_nil))) (hk := by omega)))) (a_cons (e_call (z__law_bits fx) hr takes_fn (a_cons (e_var (i := 1)) (a_cons e_int (a_cons e_int a_nil))) (hk := by omega)) a_nil))) (g_tup hK rfl (gs_cons (g_name hN) (gs_cons (g_name hN) gs_nil))))
    (ss_cons (s_tg (e_tup (a_cons (e_call (z__law_whole fx) hr takes_fn (a_cons (e_var (i := 16)) (a_cons (e_var (i := 15)) a_nil)) (hk := by omega)) (a_cons (e_binB op_sub s_sub (toB (e_bi call_len (s_len hK) fx.f_len (by kernel_rfl) (ab_cons (b_look (i := 15)) ab_nil))) (toB e_int)) a_nil))) (g_tup hK rfl (gs_cons (g_name hN) (gs_cons (g_name hN) gs_nil))))
    (ss_cons (s_kl (s_if (PW.pt (w_or (t_cmp (oNe hr) (s_ne hK) (toB (e_call (z_with_rest fx) hr takes_fn (a_cons (e_var (i := 16)) (a_cons (e_var (i := 15)) a_nil)) (hk := by omega))) (b_look (i := 17))) (w_or (t_cmp (oNe hr) (s_ne hK) (toB (e_call (z_rest fx) hr takes_fn (a_cons (e_var (i := 16)) (a_cons (e_var (i := 15)) a_nil)) (hk := by omega))) (toB (e_sl hK (b_look (i := 17)) (p_at (e_bi call_len (s_len hK) fx.f_len (by kernel_rfl) (ab_cons (b_look (i := 16)) ab_nil))) p_no))) (w_or (t_not (t_val (e_call (z_is_right fx) hr takes_fn (a_cons (e_var (i := 17)) (a_cons (e_var (i := 15)) a_nil)) (hk := by omega)))) (w_or (t_cmp (oNe hr) (s_ne hK) (toB (e_call (z_parity fx) hr takes_fn (a_cons (e_var (i := 16)) a_nil) (hk := by omega))) (toB (e_biT call_str_int s_str fx.f_str (by kernel_rfl) (ab_cons (toB (e_binB op_modN s_mod (toB (e_m1 s_count PySem.F.slot_str_count PySem.F.type_str_count mt_count (e_var (i := 16)) (toB (e_str (l := [49]))))) (toB e_int))) ab_nil)))) (w_or1 (t_cmp (oNe hr) (s_ne hK) (toB (e_call (z_told_rest fx) hr takes_fn (a_cons (e_var (i := 16)) (a_cons (e_var (i := 15)) a_nil)) (hk := by omega))) (toB (e_bi (cr_sumA rfl) (s_sumA hK) fx.f_sum (by kernel_rfl) (ab_cons (toB (n_e (n_lc [("k", 27), ("bit", 28)] rfl hN (i_enS fx.f_enumerate (a_cons (e_rev (toB (e_sl hK (b_look (i := 17)) (p_at (e_bi call_len (s_len hK) fx.f_len (by kernel_rfl) (ab_cons (b_look (i := 16)) ab_nil))) p_no))) a_nil)) (blkOk_by (by kernel_rfl)) (fun _ _ _ _ _ => (g_tup hK rfl (gs_cons (g_name hN) (gs_cons (g_name hN) gs_nil)))) (fun _ _ _ _ _ => t_yes) (fun _ _ _ _ _ => (e_binB op_mulAll s_mul (toB (e_biT call_intAll s_int fx.f_int (by kernel_rfl) (ab_cons (b_look (i := 28)) ab_nil))) (toB (e_call (z__law_power fx) hr takes0 (a_cons (e_var (i := 27)) a_nil) (hk := by omega)))))))) ab_nil)))))))))) (ss_one (s_ret e_bl)) ss_nil))
    (ss_cons (s_set (i := 4) hN (e_call (z__law_bits fx) hr takes_fn (a_cons (e_var (i := 1)) (a_cons e_int (a_cons e_int a_nil))) (hk := by omega)))
    (ss_cons (s_set (i := 5) hN (e_and (e_cmp o_ge (s_cmp _ _) (toB (e_bi call_len (s_len hK) fx.f_len (by kernel_rfl) (ab_cons (b_look (i := 4)) ab_nil))) (b_look (i := 18))) (pe_one (e_cmp (oEq hr) (s_eq hK) (toB (e_call (z__law_whole fx) hr takes_fn (a_cons (e_sl hK (b_look (i := 4)) p_no (p_at (e_binB op_sub s_sub (toB (e_bi call_len (s_len hK) fx.f_len (by kernel_rfl) (ab_cons (b_look (i := 4)) ab_nil))) (b_look (i := 18))))) (a_cons (e_var (i := 15)) a_nil)) (hk := by omega))) (b_look (i := 4))))))
    (ss_cons (s_if (PW.pt (w_or (t_cmp (oNe hr) (s_ne hK) (toB (e_told (k := 7) (told_z (k := 7) fx rfl rfl) (hr.mono (by omega)) rfl fx.sub TB rfl tab uni (LamX.lamS_by (by kernel_rfl)) (fun _ _ _ _ _ _ _ hr3 => (e_call (z_is_right fx) hr3 takes_lam (a_cons (e_var (i := 4)) (a_cons (e_var (i := 15)) a_nil)) (hk := by omega))))) (toB (e_if (t_cmp o_ge (s_cmp _ _) (toB (e_bi call_len (s_len hK) fx.f_len (by kernel_rfl) (ab_cons (b_look (i := 4)) ab_nil))) (b_look (i := 18))) (e_var (i := 5)) (e_str (l := [83, 117, 109, 69, 114, 114, 111, 114]))))) (w_or1 (t_cmp (oNe hr) (s_ne hK) (toB (e_call (z_rest_alone fx) hr takes_fn (a_cons (e_var (i := 4)) (a_cons (e_var (i := 15)) a_nil)) (hk := by omega))) (toB (e_call (z__law_rest fx) hr takes_fn (a_cons (e_var (i := 4)) (a_cons (e_var (i := 15)) a_nil)) (hk := by omega))))))) (ss_one (s_ret e_bl)) ss_nil)
    (ss_cons (s_kl (s_kl (s_if (t_cmp o_ge (s_cmp _ _) (toB (e_bi call_len (s_len hK) fx.f_len (by kernel_rfl) (ab_cons (b_look (i := 4)) ab_nil))) (b_look (i := 18))) (ss_cons (s_lc (i := 19) true [("k", 27)] rfl hN (i_r1 fx.f_range (a_cons (e_bi call_len (s_len hK) fx.f_len (by kernel_rfl) (ab_cons (b_look (i := 4)) ab_nil)) a_nil)) (blkOk_by (by kernel_rfl)) (fun _ _ _ _ _ => (g_name hN)) (fun _ _ _ _ _ => (pts_one (t_cmp (oEq hr) (s_eq hK) (toB (e_call (z__law_whole fx) hr takes0 (a_cons (e_sl hK (toB (e_call (z__law_turn fx) hr takes0 (a_cons (e_var (i := 4)) (a_cons (e_var (i := 27)) a_nil)) (hk := by omega))) p_no (p_at (e_binB op_sub s_sub (toB (e_bi call_len (s_len hK) fx.f_len (by kernel_rfl) (ab_cons (b_look (i := 4)) ab_nil))) (b_look (i := 18))))) (a_cons (e_var (i := 15)) a_nil)) (hk := by omega))) (toB (e_call (z__law_turn fx) hr takes0 (a_cons (e_var (i := 4)) (a_cons (e_var (i := 27)) a_nil)) (hk := by omega)))))) (fun _ _ _ _ _ => (e_var (i := 27))))
    (ss_one (s_kl (s_if (t_cmp (oNe hr) (s_ne hK) (toB (e_call (z_one_slip fx) hr takes_fn (a_cons (e_var (i := 4)) (a_cons (e_var (i := 15)) a_nil)) (hk := by omega))) (toB (e_if (t_val (e_var (i := 5))) (e_neg e_int) (e_if (t_cmp (oEq hr) (s_eq hK) (toB (e_bi call_len (s_len hK) fx.f_len (by kernel_rfl) (ab_cons (b_look (i := 19)) ab_nil))) (toB e_int)) (e_ix hK (b_look (i := 19)) e_int) e_non)))) (ss_one (s_ret e_bl)) ss_nil)))) ss_nil)))
    (ss_cons (s_set (i := 6) hN (e_call (z__law_bits fx) hr takes_fn (a_cons (e_var (i := 1)) (a_cons e_int (a_cons e_int a_nil))) (hk := by omega)))
    (ss_cons (s_set (i := 7) hN (e_bi (call_max2 rfl) s_max2 fx.f_max (by kernel_rfl) (ab_cons (toB (e_bi call_len (s_len hK) fx.f_len (by kernel_rfl) (ab_cons (b_look (i := 4)) ab_nil))) (ab_cons (toB (e_bi call_len (s_len hK) fx.f_len (by kernel_rfl) (ab_cons (b_look (i := 6)) ab_nil))) ab_nil))))
    (ss_cons (s_kl (s_tg (n_e (n_lc [("row", 26)] rfl hN (i_of hK (n_e (n_lst (a_cons (e_var (i := 4)) (a_cons (e_var (i := 6)) a_nil))))) (blkOk_by (by kernel_rfl)) (fun _ _ _ _ _ => (g_name hN)) (fun _ _ _ _ _ => t_yes) (fun _ _ _ _ _ => (e_binB op_addAll (s_add hK) (toB (e_binB op_mulAll s_mul (toB (e_str (l := [48]))) (toB (e_binB op_sub s_sub (b_look (i := 7)) (toB (e_bi call_len (s_len hK) fx.f_len (by kernel_rfl) (ab_cons (b_look (i := 26)) ab_nil))))))) (b_look (i := 26)))))) (g_lst rfl (gs_cons (g_name hN) (gs_cons (g_name hN) gs_nil)))))
    (ss_cons (s_kl (s_if (PW.pt (w_or (t_cmp (oNe hr) (s_ne hK) (toB (e_call (z_rest_of_sum fx) hr takes_fn (a_cons (e_call (z_rest fx) hr takes_fn (a_cons (e_var (i := 20)) (a_cons (e_var (i := 15)) a_nil)) (hk := by omega)) (a_cons (e_call (z_rest fx) hr takes_fn (a_cons (e_var (i := 21)) (a_cons (e_var (i := 15)) a_nil)) (hk := by omega)) (a_cons (e_var (i := 15)) a_nil))) (hk := by omega))) (toB (e_call (z_rest fx) hr takes_fn (a_cons (e_call (z__law_xor fx) hr takes_fn (a_cons (e_var (i := 20)) (a_cons (e_var (i := 21)) a_nil)) (hk := by omega)) (a_cons (e_var (i := 15)) a_nil)) (hk := by omega)))) (w_or1 (t_cmp (oNe hr) (s_ne hK) (toB (e_call (z_without fx) hr takes_fn (a_cons (e_var (i := 20)) (a_cons (e_var (i := 21)) a_nil)) (hk := by omega))) (toB (e_call (z__law_xor fx) hr takes_fn (a_cons (e_var (i := 20)) (a_cons (e_var (i := 21)) a_nil)) (hk := by omega))))))) (ss_one (s_ret e_bl)) ss_nil))
    (ss_cons (s_tg (e_tup (a_cons (e_binB op_addAll (s_add hK) (toB e_int) (toB (e_call (z__law_roll fx) hr takes_fn (a_cons (e_var (i := 1)) (a_cons e_int a_nil)) (hk := by omega)))) (a_cons (e_binB op_addAll (s_add hK) (toB e_int) (toB (e_call (z__law_roll fx) hr takes_fn (a_cons (e_var (i := 1)) (a_cons e_int a_nil)) (hk := by omega)))) a_nil))) (g_tup hK rfl (gs_cons (g_name hN) (gs_cons (g_name hN) gs_nil))))
    (ss_cons (s_lc (i := 8) true [("row", 26)] rfl hN (i_of hK (e_call (z__law_sets fx) hr takes_fn (a_cons (e_var (i := 22)) (a_cons (e_var (i := 23)) a_nil)) (hk := by omega))) (blkOk_by (by kernel_rfl)) (fun _ _ _ _ _ => (g_name hN)) (fun _ _ _ _ _ => (pts_one (t_cmp (oNotIn hr) (s_notIn hK) (toB (e_str (l := [49]))) (toB (e_call (z__law_rest fx) hr takes0 (a_cons (e_m1 (s_join hK) PySem.F.slot_str_join PySem.F.type_str_join mt_join (e_str (l := [])) (toB (n_e (n_lc [("k", 27)] rfl hN (i_r1 fx.f_range (a_cons (e_var (i := 22)) a_nil)) (blkOk_by (by kernel_rfl)) (fun _ _ _ _ _ => (g_name hN)) (fun _ _ _ _ _ => t_yes) (fun _ _ _ _ _ => (e_biT call_str_int s_str fx.f_str (by kernel_rfl) (ab_cons (toB (e_biT call_intAll s_int fx.f_int (by kernel_rfl) (ab_cons (toB (e_cmp (oIn hr) (s_in hK) (b_look (i := 27)) (b_look (i := 26)))) ab_nil))) ab_nil))))))) (a_cons (e_var (i := 15)) a_nil)) (hk := by omega)))))) (fun _ _ _ _ _ => (e_var (i := 26))))
    (ss_cons (s_kl (s_if (PW.pt (w_or (t_cmp (oNe hr) (s_ne hK) (toB (n_e (n_biT call_list_of (s_listN hK) fx.f_list (by kernel_rfl) (ab_cons (toB (e_call (z_slips_unseen fx) hr takes_fn (a_cons (e_var (i := 22)) (a_cons (e_var (i := 15)) (a_cons (e_var (i := 23)) a_nil))) (hk := by omega))) ab_nil)))) (b_look (i := 8))) (w_or (t_cmp (oNe hr) (s_ne hK) (toB (e_call (z_some_places fx) hr takes_fn (a_cons (e_var (i := 22)) (a_cons (e_var (i := 23)) a_nil)) (hk := by omega))) (toB (e_call (z__law_sets fx) hr takes_fn (a_cons (e_var (i := 22)) (a_cons (e_var (i := 23)) a_nil)) (hk := by omega)))) (w_or1 (t_cmp (oNe hr) (s_ne hK) (toB (e_call (z_longer fx) hr takes_fn (a_cons (n_e (n_lst (a_cons (e_tup (a_cons e_int a_nil)) (a_cons (e_tup a_nil) a_nil)))) (a_cons (e_var (i := 22)) a_nil)) (hk := by omega))) (toB (e_binB op_addAll (s_add hK) (toB (n_e (n_lc [("k", 27)] rfl hN (i_r2 fx.f_range (a_cons e_int (a_cons (e_var (i := 22)) a_nil))) (blkOk_by (by kernel_rfl)) (fun _ _ _ _ _ => (g_name hN)) (fun _ _ _ _ _ => t_yes) (fun _ _ _ _ _ => (e_tup (a_cons e_int (a_cons (e_var (i := 27)) a_nil))))))) (toB (n_e (n_lc [("k", 27)] rfl hN (i_r1 fx.f_range (a_cons (e_var (i := 22)) a_nil)) (blkOk_by (by kernel_rfl)) (fun _ _ _ _ _ => (g_name hN)) (fun _ _ _ _ _ => t_yes) (fun _ _ _ _ _ => (e_tup (a_cons (e_var (i := 27)) a_nil))))))))))))) (ss_one (s_ret e_bl)) ss_nil))
    (ss_cons (s_kl (s_set (i := 9) hN (e_binB op_addAll (s_add hK) (toB (e_binB op_mulAll s_mul (toB (e_str (l := [48]))) (toB (e_binB op_sub s_sub (b_look (i := 18)) (toB e_int))))) (toB (e_str (l := [49]))))))
    (ss_cons (s_par (i := 24) (j := 25) rfl hN (v_e (e_call (z__law_rest fx) hr takes_fn (a_cons (e_binB op_addAll (s_add hK) (b_look (i := 9)) (toB (e_str (l := [48])))) (a_cons (e_var (i := 15)) a_nil)) (hk := by omega))) (v_e e_int))
    (ss_cons (s_while owns_fn (PW.pt (w_and (t_cmp (oNe hr) (s_ne hK) (b_look (i := 24)) (b_look (i := 9))) (w_and1 (t_cmp o_lt (s_cmp _ _) (b_look (i := 25)) (toB e_int))))) (ss_one (s_par (i := 24) (j := 25) rfl hN (v_e (e_call (z__law_rest fx) hr takes_fn (a_cons (e_binB op_addAll (s_add hK) (b_look (i := 24)) (toB (e_str (l := [48])))) (a_cons (e_var (i := 15)) a_nil)) (hk := by omega))) (v_e (e_binB op_addAll (s_add hK) (b_look (i := 25)) (toB e_int))))))
    (ss_one (s_kl (s_if (t_cmp (oNe hr) (s_ne hK) (toB (e_call (z_round_of fx) hr takes_fn (a_cons (e_var (i := 15)) a_nil) (hk := by omega))) (toB (e_if (t_cmp (oEq hr) (s_eq hK) (b_look (i := 24)) (b_look (i := 9))) (e_var (i := 25)) e_non))) (ss_one (s_ret e_bl)) ss_nil)))))))))))))))))))))))))))))
    (ss_one (s_ret (e_call0 (z__law_plain fx) hr takes_fn (hk := by omega)))))
end
end Z

namespace Z
open PySem PySem.Spec PyProof.Rows L2
def ddL : List He.DefD := [dd "check_bits" (top 6), dd "told_number" (top 7), dd "number_in" (top 8), dd "check_eights" (top 11), dd "plain_sum" (top 12), dd "two_sums" (top 13), dd "joined_sums" (top 14), dd "changed_sums" (top 15), dd "parity" (top 16), dd "check_summed" (top 17), dd "check_by" (top 18), dd "rest" (top 19), dd "without" (top 20), dd "with_rest" (top 21), dd "is_right" (top 22), dd "rest_of_sum" (top 23), dd "slips_unseen" (top 24), dd "rest_alone" (top 25), dd "some_places" (top 26), dd "longer" (top 27), dd "one_slip" (top 28), dd "round_of" (top 29), dd "told_rest" (top 30), dd "eights_of" (top 31), dd "_law_dice" (top 33), dd "_law_roll" (top 34), dd "_law_rounds" (top 35), dd "_law_told" (top 36), dd "_law_power" (top 37), dd "_law_bits" (top 38), dd "_law_xor" (top 39), dd "_law_rest" (top 40), dd "_law_whole" (top 41), dd "_law_two" (top 42), dd "_law_sets" (top 43), dd "_law_turn" (top 44), dd "_law_plain" (top 45), dd "law" (top 46)]
def fa_0 : List He.Fa := [.glo "check_bits", .glo "told_number", .glo "number_in", .glo "check_eights", .glo "plain_sum", .glo "two_sums", .glo "joined_sums", .glo "changed_sums", .glo "parity", .glo "check_summed", .glo "check_by", .glo "rest", .glo "without", .glo "with_rest", .glo "is_right", .glo "rest_of_sum", .glo "slips_unseen", .glo "rest_alone", .glo "some_places", .glo "longer", .glo "one_slip", .glo "round_of", .glo "told_rest", .glo "eights_of", .glo "_law_dice", .glo "_law_roll", .glo "_law_rounds", .glo "_law_told", .glo "_law_power", .glo "_law_bits"]
def fa_1 : List He.Fa := [.glo "_law_xor", .glo "_law_rest", .glo "_law_whole", .glo "_law_two", .glo "_law_sets", .glo "_law_turn", .glo "_law_plain", .glo "law", .free "abs", .free "any", .free "enumerate", .free "int", .free "len", .free "list", .free "max", .free "range", .free "str", .free "sum", .free "tuple", .free "zip", .int "MOST_BITS_HELD" 4000, .int "MOST_SUMMED" 400, .glo "BitError", .exc "BitError", .glo "SumError", .exc "SumError", .exm "BitError" "SumError" false, .exm "SumError" "SumError" true, .exm "BitError" "BitError" true, .exm "SumError" "BitError" false]
def faL : List He.Fa := fa_0 ++ fa_1
def tfL : List He.Defn := [("check_bits", none), ("check_eights", none), ("_law_plain", none), ("law", none)]
def tlK (K : PySem.W.Frag) : List (Addr × Str) := [((He.cT K ("check_bits", none)).2, "check_bits" ++ ".<locals>." ++ "<genexpr>"), ((He.cT K ("check_eights", none)).2, "check_eights" ++ ".<locals>." ++ "<genexpr>"), ((He.cT K ("_law_plain", none)).2, "_law_plain" ++ ".<locals>." ++ "<lambda>"), ((He.cT K ("law", none)).2, "law" ++ ".<locals>." ++ "<lambda>")]
def caK (K : PySem.W.Frag) : Nat → Addr := fun n => match n with
  | 1 => He.ga K "BitError"
  | 2 => He.ga K "SumError"
  | _ => 0
def exL (K : PySem.W.Frag) : Bool := uniq (tlK K)
def glK (K : PySem.W.Frag) : Gl := ⟨K, caK K, tlK K, lamTab⟩
section
variable {P : Program} {w : World} {K : PySem.W.Frag} {mg : Str → Option Value} {base h : Heap}
theorem fx_of (X : K.In h) (N : h.Ns mainGlobals mg) (c : He.SaysX faL ddL [] tfL exL w h K) (B : ∀ p ∈ tfL, LamX.TabB base mg (He.cT K p).1 (He.cT K p).2) : Fx P w K mg base (glK K) where
  hK := rfl
  d_check_bits := defTab (G := glK K) X N c B c.more 0 0 0 0 rfl rfl rfl rfl
  d_told_number := defAt X N c 1 1 rfl rfl
  d_number_in := defAt X N c 2 2 rfl rfl
  d_check_eights := defTab (G := glK K) X N c B c.more 3 3 1 1 rfl rfl rfl rfl
  d_plain_sum := defAt X N c 4 4 rfl rfl
  d_two_sums := defAt X N c 5 5 rfl rfl
  d_joined_sums := defAt X N c 6 6 rfl rfl
  d_changed_sums := defAt X N c 7 7 rfl rfl
  d_parity := defAt X N c 8 8 rfl rfl
  d_check_summed := defAt X N c 9 9 rfl rfl
  d_check_by := defAt X N c 10 10 rfl rfl
  d_rest := defAt X N c 11 11 rfl rfl
  d_without := defAt X N c 12 12 rfl rfl
  d_with_rest := defAt X N c 13 13 rfl rfl
  d_is_right := defAt X N c 14 14 rfl rfl
  d_rest_of_sum := defAt X N c 15 15 rfl rfl
  d_slips_unseen := defAt X N c 16 16 rfl rfl
  d_rest_alone := defAt X N c 17 17 rfl rfl
  d_some_places := defAt X N c 18 18 rfl rfl
  d_longer := defAt X N c 19 19 rfl rfl
  d_one_slip := defAt X N c 20 20 rfl rfl
  d_round_of := defAt X N c 21 21 rfl rfl
  d_told_rest := defAt X N c 22 22 rfl rfl
  d_eights_of := defAt X N c 23 23 rfl rfl
  d__law_dice := defAt X N c 24 24 rfl rfl
  d__law_roll := defAt X N c 25 25 rfl rfl
  d__law_rounds := defAt X N c 26 26 rfl rfl
  d__law_told := defAt X N c 27 27 rfl rfl
  d__law_power := defAt X N c 28 28 rfl rfl
  d__law_bits := defAt X N c 29 29 rfl rfl
  d__law_xor := defAt X N c 30 30 rfl rfl
  d__law_rest := defAt X N c 31 31 rfl rfl
  d__law_whole := defAt X N c 32 32 rfl rfl
  d__law_two := defAt X N c 33 33 rfl rfl
  d__law_sets := defAt X N c 34 34 rfl rfl
  d__law_turn := defAt X N c 35 35 rfl rfl
  d__law_plain := defTab (G := glK K) X N c B c.more 36 36 2 2 rfl rfl rfl rfl
  d_law := defTab (G := glK K) X N c B c.more 37 37 3 3 rfl rfl rfl rfl
  f_abs := freeAt X N c 38 rfl
  f_any := freeAt X N c 39 rfl
  f_enumerate := freeAt X N c 40 rfl
  f_int := freeAt X N c 41 rfl
  f_len := freeAt X N c 42 rfl
  f_list := freeAt X N c 43 rfl
  f_max := freeAt X N c 44 rfl
  f_range := freeAt X N c 45 rfl
  f_str := freeAt X N c 46 rfl
  f_sum := freeAt X N c 47 rfl
  f_tuple := freeAt X N c 48 rfl
  f_zip := freeAt X N c 49 rfl
  c_MOST_BITS_HELD := intAt X N c 50 rfl
  c_MOST_SUMMED := intAt X N c 51 rfl
  x_BitError := excAt X N c 52 53 rfl rfl rfl
  x_SumError := excAt X N c 54 55 rfl rfl rfl
  lam := rfl
  sub := fun n b e => by
    unfold subE at e
    split at e
    · cases e
      exact He.exm_ok (fact_at c 56 rfl)
    · cases e
      exact He.exm_ok (fact_at c 57 rfl)
    · cases e
  sub_BitError := fun n b e => by
    unfold subE_BitError at e
    split at e
    · cases e
      exact He.exm_ok (fact_at c 58 rfl)
    · cases e
      exact He.exm_ok (fact_at c 59 rfl)
    · cases e
end
theorem tl_in (K : PySem.W.Frag) : ∀ t ∈ (glK K).tl, ∃ p ∈ tfL, t.1 = (He.cT K p).2 := by
  intro t ht
  have h2 : t ∈ tlK K := ht
  simp only [tlK, List.mem_cons, List.not_mem_nil, or_false] at h2
  rcases h2 with rfl | rfl | rfl | rfl
  · exact ⟨("check_bits", none), by simp [tfL], rfl⟩
  · exact ⟨("check_eights", none), by simp [tfL], rfl⟩
  · exact ⟨("_law_plain", none), by simp [tfL], rfl⟩
  · exact ⟨("law", none), by simp [tfL], rfl⟩
end Z

/-! Zs: how a mirror is run by rewriting: each part is met only when what stands ahead of it is known -/
namespace Z
open PySem PySem.Spec L2
section
variable {ρ ρ' : Rho} {h h1 h2 : Hc} {α β : Type}

/-! ### what follows what -/
def R.bin (op : D → D → Hc → R D) (r : R D) (f : Hc → R D) : R D := r.bind fun x h1 => (f h1).bind fun y h2 => op x y h2
def R.bin2 (op : D → D → Hc → R D) (x : D) (r : R D) : R D := r.bind fun y h2 => op x y h2
def R.cons (r : R D) (f : Hc → R (List D)) : R (List D) := r.bind fun x h1 => (f h1).bind fun xs h2 => .ok (x :: xs) h2
def R.cons2 (x : D) (r : R (List D)) : R (List D) := r.bind fun xs h2 => .ok (x :: xs) h2
def R.fn (k : D → Hc → R β) (r : R D) : R β := r.bind k
def R.fnL (k : List D → Hc → R β) (r : R (List D)) : R β := r.bind k
def R.iteE (r : R Bool) (a b : Hc → R β) : R β := r.bind fun x h1 => if x = true then a h1 else b h1
def R.and2 (r : R Bool) (f : Hc → R Bool) : R Bool := r.bind fun x h1 => if x = true then f h1 else .ok false h1
def R.or2 (r : R Bool) (f : Hc → R Bool) : R Bool := r.bind fun x h1 => if x = true then .ok true h1 else f h1
def R.andE (r : R D) (f : Hc → R D) : R D := r.bind fun x h1 => match x with
  | .bl true => f h1
  | .bl false => .ok (.bl false) h1
  | _ => .bad
def R.orE (r : R D) (f : Hc → R D) : R D := r.bind fun x h1 => match x with
  | .bl true => .ok (.bl true) h1
  | .bl false => f h1
  | _ => .bad
def kNeg (x : D) (h : Hc) : R D := match x with
  | .int i => .ok (.int (-i)) h
  | _ => .bad
def kNot (x : D) (h : Hc) : R D := match x with
  | .bl b => .ok (.bl (!b)) h
  | _ => .bad
def kIsN (neg : Bool) (x : D) (h : Hc) : R D := match x with
  | .non => .ok (.bl (!neg)) h
  | _ => .ok (.bl neg) h
def kIsNT (neg : Bool) (x : D) (h : Hc) : R Bool := match x with
  | .non => .ok (!neg) h
  | _ => .ok neg h
def kB (x : D) (h : Hc) : R Bool := match x with
  | .bl b => .ok b h
  | _ => .bad
def kTup (ds : List D) (h : Hc) : R D := if ds.length ≤ 16777216 then .ok (.tup ds) h else .bad
def kLst (ds : List D) (h : Hc) : R D := if ds.length ≤ 16777216 then .ok (.lst ds) h else .bad
def kAt (x : D) (h : Hc) : R (Option Int) := match x with
  | .int i => .ok (some i) h
  | _ => .bad
def kItems (d : D) (h : Hc) : R (List D) := match itemsD d with
  | some ds => .ok ds h
  | none => .bad
def kFmt (x : D) (h : Hc) : R D := match x with
  | .str s => if s.length ≤ 16777216 then .ok (.str s) h else .bad
  | .int i => if 0 ≤ i ∧ i < 2 ^ 64 then .ok (.str (numD i)) h else .bad
  | _ => .bad
def kCall (n : Nat) (m : FM) (xs : List D) (h : Hc) : R D := if xs.length = n then m xs h else .bad
def R.sl (r : R D) (lo hi : Hc → R (Option Int)) : R D := r.bind fun x h1 => (lo h1).bind fun l h2 => (hi h2).bind fun u h3 => slOp x l u h3
def R.sl2 (x : D) (r : R (Option Int)) (hi : Hc → R (Option Int)) : R D := r.bind fun l h2 => (hi h2).bind fun u h3 => slOp x l u h3
def R.sl3 (x : D) (l : Option Int) (r : R (Option Int)) : R D := r.bind fun u h3 => slOp x l u h3
def R.lc (t : Tg) (tt : TM) (em : EM) (ρ : Rho) (r : R (List D)) : R D := r.bind fun ds h1 => if ds.length ≤ 16777216 then (lcLoop t tt em ρ ds h1).bind fun ys h2 => .ok (.lst ys) h2 else .bad
def R.m1 (b : D → D → Hc → R D) (r : R D) (f : Hc → R D) : R D := r.bind fun x h1 => if isStr x then (f h1).bind fun y h2 => b x y h2 else .bad
def R.chain (o1 o2 : D → D → Hc → R D) (r : R D) (f g : Hc → R D) : R D := r.bind fun x h1 => (f h1).bind fun y h2 => (o1 x y h2).bind fun z h3 => match z with
  | .bl true => (g h3).bind fun w h4 => o2 y w h4
  | .bl false => .ok (.bl false) h3
  | _ => .bad
def R.chain2 (o1 o2 : D → D → Hc → R D) (x : D) (r : R D) (g : Hc → R D) : R D := r.bind fun y h2 => (o1 x y h2).bind fun z h3 => match z with
  | .bl true => (g h3).bind fun w h4 => o2 y w h4
  | .bl false => .ok (.bl false) h3
  | _ => .bad
def R.chain3 (o2 : D → D → Hc → R D) (y : D) (r : R D) (g : Hc → R D) : R D := r.bind fun z h3 => match z with
  | .bl true => (g h3).bind fun w h4 => o2 y w h4
  | .bl false => .ok (.bl false) h3
  | _ => .bad
def R.gen (t : Tg) (tt : TM) (em : EM) (k : List (D × Hc) → Hc → R β) (ρ : Rho) (r : R (List D)) : R β := r.bind fun ds h1 => if ds.length ≤ 16777216 then (match genL t tt em ρ ds h1 with
  | (yl, some hE) => k yl hE
  | _ => .bad) else .bad
def R.told (sub : Nat → Option Bool) (ret : List Nat) (r : R D) : R D := match r with
  | .ex c h' => if sub c = some true then .ok (.str ret) h' else .bad
  | r => r

@[simp] theorem get?_0 {a : α} {l : List α} : (a :: l)[0]? = some a := id rfl
@[simp] theorem get?_s {a : α} {l : List α} {i : Nat} : (a :: l)[i + 1]? = l[i]? := id rfl
/-! ### expressions -/
@[simp] theorem eC_ap {d : D} : eC d ρ h = .ok d h := id rfl
@[simp] theorem eVar_ap {i : Nat} : eVar i ρ h = match ρ[i]? with
  | some (.v d) => .ok d h
  | _ => .bad := id rfl
@[simp] theorem eLook_ap {i : Nat} : eLook i ρ h = match ρ[i]? with
  | some (.v d) => .ok d h
  | some (.o d) => .ok d h
  | _ => .bad := id rfl
@[simp] theorem eBin_ap {op} {a b : EM} : eBin op a b ρ h = R.bin op (a ρ h) (b ρ) := id rfl
@[simp] theorem R.bin_ok {op} {x : D} {f} : R.bin op (.ok x h) f = R.bin2 op x (f h) := id rfl
@[simp] theorem R.bin_ex {op} {c : Nat} {f} : R.bin op (.ex c h) f = .ex c h := id rfl
@[simp] theorem R.bin_bad {op} {f} : R.bin op .bad f = .bad := id rfl
@[simp] theorem R.bin2_ok {op} {x y : D} : R.bin2 op x (.ok y h) = op x y h := id rfl
@[simp] theorem R.bin2_ex {op} {c : Nat} {x : D} : R.bin2 op x (.ex c h) = .ex c h := id rfl
@[simp] theorem R.bin2_bad {op} {x : D} : R.bin2 op x .bad = .bad := id rfl
@[simp] theorem R.fn_ok {k : D → Hc → R β} {x : D} : R.fn k (.ok x h) = k x h := id rfl
@[simp] theorem R.fn_ex {k : D → Hc → R β} {c : Nat} : R.fn k (.ex c h) = .ex c h := id rfl
@[simp] theorem R.fn_bad {k : D → Hc → R β} : R.fn k .bad = .bad := id rfl
@[simp] theorem R.fnL_ok {k : List D → Hc → R β} {x : List D} : R.fnL k (.ok x h) = k x h := id rfl
@[simp] theorem R.fnL_ex {k : List D → Hc → R β} {c : Nat} : R.fnL k (.ex c h) = .ex c h := id rfl
@[simp] theorem R.fnL_bad {k : List D → Hc → R β} : R.fnL k .bad = .bad := id rfl
@[simp] theorem eNeg_ap {a : EM} : eNeg a ρ h = R.fn kNeg (a ρ h) := id rfl
@[simp] theorem kNeg_int {i : Int} : kNeg (.int i) h = .ok (.int (-i)) h := id rfl
@[simp] theorem eNot_ap {a : EM} : eNot a ρ h = R.fn kNot (a ρ h) := id rfl
@[simp] theorem kNot_bl {b : Bool} : kNot (.bl b) h = .ok (.bl (!b)) h := id rfl
@[simp] theorem eIsN_ap {n : Bool} {a : EM} : eIsN n a ρ h = R.fn (kIsN n) (a ρ h) := id rfl
@[simp] theorem kIsN_non {n : Bool} : kIsN n .non h = .ok (.bl (!n)) h := id rfl
@[simp] theorem kIsN_bl {n b : Bool} : kIsN n (.bl b) h = .ok (.bl n) h := id rfl
@[simp] theorem kIsN_int {n : Bool} {b : Int} : kIsN n (.int b) h = .ok (.bl n) h := id rfl
@[simp] theorem kIsN_str {n : Bool} {b : List Nat} : kIsN n (.str b) h = .ok (.bl n) h := id rfl
@[simp] theorem kIsN_tup {n : Bool} {b : List D} : kIsN n (.tup b) h = .ok (.bl n) h := id rfl
@[simp] theorem kIsN_lst {n : Bool} {b : List D} : kIsN n (.lst b) h = .ok (.bl n) h := id rfl
@[simp] theorem kIsNT_non {n : Bool} : kIsNT n .non h = .ok (!n) h := id rfl
@[simp] theorem kIsNT_bl {n b : Bool} : kIsNT n (.bl b) h = .ok n h := id rfl
@[simp] theorem kIsNT_int {n : Bool} {b : Int} : kIsNT n (.int b) h = .ok n h := id rfl
@[simp] theorem kIsNT_str {n : Bool} {b : List Nat} : kIsNT n (.str b) h = .ok n h := id rfl
@[simp] theorem kIsNT_tup {n : Bool} {b : List D} : kIsNT n (.tup b) h = .ok n h := id rfl
@[simp] theorem kIsNT_lst {n : Bool} {b : List D} : kIsNT n (.lst b) h = .ok n h := id rfl
@[simp] theorem tIsNM_ap {n : Bool} {a : EM} : tIsNM n a ρ h = R.fn (kIsNT n) (a ρ h) := id rfl
@[simp] theorem tB1_ap {a : EM} : tB1 a ρ h = R.fn kB (a ρ h) := id rfl
@[simp] theorem kB_bl {b : Bool} : kB (.bl b) h = .ok b h := id rfl
@[simp] theorem tNotM_ap {a : TM} : tNotM a ρ h = (a ρ h).bind fun b h1 => .ok (!b) h1 := id rfl
@[simp] theorem tYesM_ap : tYesM ρ h = .ok true h := id rfl
@[simp] theorem tAndM_ap {a b : TM} : tAndM a b ρ h = R.and2 (a ρ h) (b ρ) := id rfl
@[simp] theorem R.and2_ok {c : Bool} {f} : R.and2 (.ok c h) f = if c = true then f h else .ok false h := id rfl
@[simp] theorem R.and2_ex {c : Nat} {f} : R.and2 (.ex c h) f = .ex c h := id rfl
@[simp] theorem R.and2_bad {f} : R.and2 .bad f = .bad := id rfl
@[simp] theorem tOrM_ap {a b : TM} : tOrM a b ρ h = R.or2 (a ρ h) (b ρ) := id rfl
@[simp] theorem R.or2_ok {c : Bool} {f} : R.or2 (.ok c h) f = if c = true then .ok true h else f h := id rfl
@[simp] theorem R.or2_ex {c : Nat} {f} : R.or2 (.ex c h) f = .ex c h := id rfl
@[simp] theorem R.or2_bad {f} : R.or2 .bad f = .bad := id rfl
@[simp] theorem eAnd_ap {a b : EM} : eAnd a b ρ h = R.andE (a ρ h) (b ρ) := id rfl
@[simp] theorem R.andE_ok {c : Bool} {f} : R.andE (.ok (.bl c) h) f = if c = true then f h else .ok (.bl false) h := by cases c <;> rfl
@[simp] theorem R.andE_ex {c : Nat} {f} : R.andE (.ex c h) f = .ex c h := id rfl
@[simp] theorem R.andE_bad {f} : R.andE .bad f = .bad := id rfl
@[simp] theorem eOr_ap {a b : EM} : eOr a b ρ h = R.orE (a ρ h) (b ρ) := id rfl
@[simp] theorem R.orE_ok {c : Bool} {f} : R.orE (.ok (.bl c) h) f = if c = true then .ok (.bl true) h else f h := by cases c <;> rfl
@[simp] theorem R.orE_ex {c : Nat} {f} : R.orE (.ex c h) f = .ex c h := id rfl
@[simp] theorem R.orE_bad {f} : R.orE .bad f = .bad := id rfl
@[simp] theorem eIf_ap {t : TM} {a b : EM} : eIf t a b ρ h = R.iteE (t ρ h) (a ρ) (b ρ) := id rfl
@[simp] theorem R.iteE_ok {c : Bool} {a b : Hc → R β} : R.iteE (.ok c h) a b = if c = true then a h else b h := id rfl
@[simp] theorem R.iteE_ex {c : Nat} {a b : Hc → R β} : R.iteE (.ex c h) a b = .ex c h := id rfl
@[simp] theorem R.iteE_bad {a b : Hc → R β} : R.iteE .bad a b = .bad := id rfl
@[simp] theorem aNil_ap : aNil ρ h = .ok [] h := id rfl
@[simp] theorem aCons_ap {a : EM} {r : AM} : aCons a r ρ h = R.cons (a ρ h) (r ρ) := id rfl
@[simp] theorem R.cons_ok {x : D} {f} : R.cons (.ok x h) f = R.cons2 x (f h) := id rfl
@[simp] theorem R.cons_ex {c : Nat} {f} : R.cons (.ex c h) f = .ex c h := id rfl
@[simp] theorem R.cons_bad {f} : R.cons .bad f = .bad := id rfl
@[simp] theorem R.cons2_ok {x : D} {xs : List D} : R.cons2 x (.ok xs h) = .ok (x :: xs) h := id rfl
@[simp] theorem R.cons2_ex {c : Nat} {x : D} : R.cons2 x (.ex c h) = .ex c h := id rfl
@[simp] theorem R.cons2_bad {x : D} : R.cons2 x .bad = .bad := id rfl
@[simp] theorem eTup_ap {a : AM} : eTup a ρ h = R.fnL kTup (a ρ h) := id rfl
@[simp] theorem kTup_ok {ds : List D} (hl : ds.length ≤ 16777216) : kTup ds h = .ok (.tup ds) h := if_pos hl
@[simp] theorem eLst_ap {a : AM} : eLst a ρ h = R.fnL kLst (a ρ h) := id rfl
@[simp] theorem kLst_ok {ds : List D} (hl : ds.length ≤ 16777216) : kLst ds h = .ok (.lst ds) h := if_pos hl
@[simp] theorem eBi_ap {b : BM} {a : AM} : eBi b a ρ h = R.fnL b (a ρ h) := id rfl
@[simp] theorem eCall_ap {n : Nat} {m : FM} {a : AM} : eCall n m a ρ h = R.fnL (kCall n m) (a ρ h) := id rfl
@[simp] theorem kCall_ok {n : Nat} {m : FM} {xs : List D} (hl : xs.length = n) : kCall n m xs h = m xs h := if_pos hl
@[simp] theorem pNo_ap : pNo ρ h = .ok none h := id rfl
@[simp] theorem pAt_ap {a : EM} : pAt a ρ h = R.fn kAt (a ρ h) := id rfl
@[simp] theorem kAt_int {i : Int} : kAt (.int i) h = .ok (some i) h := id rfl
@[simp] theorem eSl_ap {a : EM} {lo hi : PM} : eSl a lo hi ρ h = R.sl (a ρ h) (lo ρ) (hi ρ) := id rfl
@[simp] theorem R.sl_ok {x : D} {lo hi} : R.sl (.ok x h) lo hi = R.sl2 x (lo h) hi := id rfl
@[simp] theorem R.sl_ex {c : Nat} {lo hi} : R.sl (.ex c h) lo hi = .ex c h := id rfl
@[simp] theorem R.sl2_ok {x : D} {l : Option Int} {hi} : R.sl2 x (.ok l h) hi = R.sl3 x l (hi h) := id rfl
@[simp] theorem R.sl3_ok {x : D} {l u : Option Int} : R.sl3 x l (.ok u h) = slOp x l u h := id rfl
@[simp] theorem eFmt_ap {a : EM} : eFmt a ρ h = R.fn kFmt (a ρ h) := id rfl
@[simp] theorem kFmt_str {s : List Nat} (hl : s.length ≤ 16777216) : kFmt (.str s) h = .ok (.str s) h := if_pos hl
@[simp] theorem kFmt_int {i : Int} (hl : 0 ≤ i ∧ i < 2 ^ 64) : kFmt (.int i) h = .ok (.str (numD i)) h := if_pos hl
@[simp] theorem eM1_ap {b} {o a : EM} : eM1 b o a ρ h = R.m1 b (o ρ h) (a ρ) := id rfl
@[simp] theorem R.m1_ok {b} {s : List Nat} {f} : R.m1 b (.ok (.str s) h) f = R.bin2 b (.str s) (f h) := id rfl
@[simp] theorem eChain_ap {o1 o2} {a b c : EM} : eChain o1 o2 a b c ρ h = R.chain o1 o2 (a ρ h) (b ρ) (c ρ) := id rfl
@[simp] theorem R.chain_ok {o1 o2} {x : D} {f g} : R.chain o1 o2 (.ok x h) f g = R.chain2 o1 o2 x (f h) g := id rfl
@[simp] theorem R.chain2_ok {o1 o2} {x y : D} {g} : R.chain2 o1 o2 x (.ok y h) g = R.chain3 o2 y (o1 x y h) g := id rfl
@[simp] theorem R.chain3_ok {o2} {y : D} {c : Bool} {g} : R.chain3 o2 y (.ok (.bl c) h) g = if c = true then R.bin2 o2 y (g h) else .ok (.bl false) h := by cases c <;> rfl
@[simp] theorem eLc_ap {t : Tg} {vs : List Nat} {im : IM} {tt : TM} {em : EM} : eLc t vs im tt em ρ h = R.lc t tt em (wipeR ρ vs) (im ρ h) := id rfl
@[simp] theorem eGen_ap {t : Tg} {vs : List Nat} {im : IM} {tt : TM} {em : EM} {k : List (D × Hc) → Hc → R β} : eGen t vs im tt em k ρ h = R.gen t tt em k (wipeR ρ vs) (im ρ h) := id rfl
@[simp] theorem eAny_ap {t : Tg} {vs : List Nat} {im : IM} {tt : TM} {em : EM} : eAny t vs im tt em ρ h = R.gen t tt em anyC (wipeR ρ vs) (im ρ h) := id rfl
@[simp] theorem eAll_ap {t : Tg} {vs : List Nat} {im : IM} {tt : TM} {em : EM} : eAll t vs im tt em ρ h = R.gen t tt em allC (wipeR ρ vs) (im ρ h) := id rfl
@[simp] theorem eTupG_ap {t : Tg} {vs : List Nat} {im : IM} {tt : TM} {em : EM} : eTupG t vs im tt em ρ h = R.gen t tt em tupC (wipeR ρ vs) (im ρ h) := id rfl
@[simp] theorem eSumG_ap {t : Tg} {vs : List Nat} {im : IM} {tt : TM} {em : EM} : eSumG t vs im tt em ρ h = R.gen t tt em (sumC 0) (wipeR ρ vs) (im ρ h) := id rfl
@[simp] theorem eTold_ap {sub} {ret : List Nat} {em : EM} : eTold sub ret em ρ h = R.told sub ret (em ρ h) := id rfl
@[simp] theorem R.told_ok {sub} {ret : List Nat} {x : D} : R.told sub ret (.ok x h) = .ok x h := id rfl
@[simp] theorem R.told_ex {sub} {ret : List Nat} {c : Nat} (hs : sub c = some true) : R.told sub ret (.ex c h) = .ok (.str ret) h := if_pos hs
@[simp] theorem wipeR_nil : wipeR ρ [] = ρ := id rfl
@[simp] theorem wipeR_cons {v : Nat} {vs : List Nat} : wipeR ρ (v :: vs) = (wipeR ρ vs).set v .u := id rfl
@[simp] theorem vE_ap {a : EM} : vE a ρ h = (a ρ h).bind fun d h1 => .ok (.v d) h1 := id rfl
@[simp] theorem vN_ap {a : EM} : vN a ρ h = (a ρ h).bind fun d h1 => .ok (.o d) h1 := id rfl

def kBox (d : D) (h : Hc) : R D := if d.nl then .ok (.ref h.length) (h ++ [.box d]) else .bad
@[simp] theorem eBox_ap {em : EM} : eBox em ρ h = R.fn kBox (em ρ h) := id rfl
@[simp] theorem kBox_ok {d : D} (e : d.nl = true) : kBox d h = .ok (.ref h.length) (h ++ [.box d]) := if_pos e
@[simp] theorem nl_lst {xs : List D} : (D.lst xs).nl = nls xs := id rfl
@[simp] theorem nl_int {i : Int} : (D.int i).nl = true := id rfl
@[simp] theorem nls_nil : nls [] = true := id rfl
@[simp] theorem nls_cons {x : D} {xs : List D} : nls (x :: xs) = (x.nl && nls xs) := id rfl
/-! ### what is gone through -/
@[simp] theorem iOf_ap {a : EM} : iOf a ρ h = R.fn kItems (a ρ h) := id rfl
@[simp] theorem kItems_lst {ds : List D} : kItems (.lst ds) h = .ok ds h := id rfl
@[simp] theorem kItems_tup {ds : List D} : kItems (.tup ds) h = .ok ds h := id rfl
@[simp] theorem kItems_scr {ds : List D} : kItems (.scr ds) h = .ok ds h := id rfl
@[simp] theorem kItems_str {s : List Nat} : kItems (.str s) h = .ok (s.map fun c => .str [c]) h := id rfl
def kR1 (xs : List D) (h : Hc) : R (List D) := match xs with
  | [.int j] => if -(2 ^ 62) ≤ j ∧ j < 2 ^ 62 then .ok (rngL 0 j.toNat) h else .bad
  | _ => .bad
def kR2 (xs : List D) (h : Hc) : R (List D) := match xs with
  | [.int i, .int j] => if -(2 ^ 62) ≤ i ∧ i < 2 ^ 62 ∧ -(2 ^ 62) ≤ j ∧ j < 2 ^ 62 then .ok (rngL i (j - i).toNat) h else .bad
  | _ => .bad
def kR3 (xs : List D) (h : Hc) : R (List D) := match xs with
  | [.int i, .int j, .int c] => if c ≠ 0 ∧ c.natAbs < 1073741824 ∧ Builtin.Range.small i j c = true ∧ 0 ≤ Builtin.Range.rangeSize i j c then .ok (rngC c i (Builtin.Range.rangeSize i j c).toNat) h else .bad
  | _ => .bad
def kZp (xs : List D) (h : Hc) : R (List D) := match xs with
  | [.lst ds, .lst es] => .ok (zipL ds es) h
  | [.tup ds, .tup es] => .ok (zipL ds es) h
  | _ => .bad
/-- lo, lo + 1 .. -/
def rgI (lo : Int) (n : Nat) : List Int := (List.range n).map fun k : Nat => lo + (k : Int)
theorem rngL_eq (n : Nat) : ∀ lo : Int, rngL lo n = (rgI lo n).map D.int := by
  induction n with
  | zero => intro lo; rfl
  | succ n ih =>
    intro lo
    show D.int lo :: rngL (lo + 1) n = _
    rw [ih]
    unfold rgI
    rw [List.range_succ_eq_map, List.map_cons, List.map_cons, List.map_map, List.map_map]
    congr 1
    · simp
    · rw [List.map_map]
      apply List.map_congr_left
      intro k _
      simp only [Function.comp, Nat.succ_eq_add_one]
      congr 1
      omega
theorem rgI_len (lo : Int) (n : Nat) : (rgI lo n).length = n := by simp [rgI]
theorem rgI_mem {lo x : Int} {n : Nat} : x ∈ rgI lo n ↔ lo ≤ x ∧ x < lo + n := by
  unfold rgI
  simp only [List.mem_map, List.mem_range]
  constructor
  · rintro ⟨k, h, rfl⟩; omega
  · intro h; exact ⟨(x - lo).toNat, by omega, by omega⟩
theorem rgI_get {lo : Int} {n i : Nat} (h : i < n) : (rgI lo n)[i]? = some (lo + i) := by
  unfold rgI
  rw [List.getElem?_map, List.getElem?_range h]
  rfl
theorem rgI_succ (lo : Int) (n : Nat) : rgI lo (n + 1) = rgI lo n ++ [lo + n] := by
  unfold rgI
  rw [List.range_succ, List.map_append]
  rfl
theorem rgI_cons (lo : Int) (n : Nat) : rgI lo (n + 1) = lo :: rgI (lo + 1) n := by
  have h := rngL_eq (n + 1) lo
  have h2 := rngL_eq n (lo + 1)
  have e : rngL lo (n + 1) = D.int lo :: rngL (lo + 1) n := rfl
  rw [e, h2] at h
  have inj : Function.Injective D.int := fun a b z => by cases z; rfl
  have : (lo :: rgI (lo + 1) n).map D.int = (rgI lo (n + 1)).map D.int := h
  exact ((List.map_inj_right inj).mp this).symm
@[simp] theorem iR1_ap {a : AM} : iR1 a ρ h = R.fnL kR1 (a ρ h) := id rfl
@[simp] theorem kR1_ok {j : Int} (hj : -(2 ^ 62) ≤ j ∧ j < 2 ^ 62) : kR1 [.int j] h = .ok ((rgI 0 j.toNat).map D.int) h := by
  rw [← rngL_eq]; exact if_pos hj
@[simp] theorem iR2_ap {a : AM} : iR2 a ρ h = R.fnL kR2 (a ρ h) := id rfl
@[simp] theorem kR2_ok {i j : Int} (hj : -(2 ^ 62) ≤ i ∧ i < 2 ^ 62 ∧ -(2 ^ 62) ≤ j ∧ j < 2 ^ 62) : kR2 [.int i, .int j] h = .ok ((rgI i (j - i).toNat).map D.int) h := by
  rw [← rngL_eq]; exact if_pos hj
@[simp] theorem iR3_ap {a : AM} : iR3 a ρ h = R.fnL kR3 (a ρ h) := id rfl
@[simp] theorem iZp_ap {a : AM} : iZp a ρ h = R.fnL kZp (a ρ h) := id rfl
@[simp] theorem kZp_lst {a b : List D} : kZp [.lst a, .lst b] h = .ok (zipL a b) h := id rfl
@[simp] theorem kZp_tup {a b : List D} : kZp [.tup a, .tup b] h = .ok (zipL a b) h := id rfl
theorem zipL_map {γ δ : Type} (f : γ → D) (g : δ → D) : ∀ (xs : List γ) (ys : List δ), zipL (xs.map f) (ys.map g) = (xs.zip ys).map fun p => .tup [f p.1, g p.2]
  | [], _ => by simp [zipL]
  | x :: xs, [] => by simp [zipL]
  | x :: xs, y :: ys => by simp [zipL, zipL_map f g xs ys]
@[simp] theorem iEnA_ap {a : AM} : iEnA a ρ h = R.fnL enD (a ρ h) := id rfl
theorem enumL_eq {γ : Type} (f : γ → D) : ∀ (xs : List γ) (k : Nat), enumL k (xs.map f) = (xs.zipIdx k).map fun p => .tup [.int p.2, f p.1]
  | [], _ => rfl
  | x :: xs, k => by simp [enumL, enumL_eq f xs (k + 1)]
@[simp] theorem enD_lst {γ : Type} {f : γ → D} {xs : List γ} : enD [.lst (xs.map f)] h = .ok ((xs.zipIdx 0).map fun p => .tup [.int p.2, f p.1]) h := by
  show R.ok (enumL 0 (xs.map f)) h = _
  rw [enumL_eq]
@[simp] theorem enD_tup {γ : Type} {f : γ → D} {xs : List γ} : enD [.tup (xs.map f)] h = .ok ((xs.zipIdx 0).map fun p => .tup [.int p.2, f p.1]) h := by
  show R.ok (enumL 0 (xs.map f)) h = _
  rw [enumL_eq]

/-! ### operators -/
@[simp] theorem opAdd_int {i j : Int} : opAdd (.int i) (.int j) h = .ok (.int (i + j)) h := id rfl
@[simp] theorem opAdd_ib {i : Int} {k : Bool} : opAdd (.int i) (.bl k) h = .ok (.int (i + if k then 1 else 0)) h := id rfl
@[simp] theorem opAdd_str {a b : List Nat} (hl : a.length + b.length ≤ 16777216) : opAdd (.str a) (.str b) h = .ok (.str (a ++ b)) h := if_pos hl
@[simp] theorem opAdd_tup {a b : List D} (hl : a.length + b.length ≤ 16777216) : opAdd (.tup a) (.tup b) h = .ok (.tup (a ++ b)) h := if_pos hl
@[simp] theorem opAdd_lst {a b : List D} (hl : a.length + b.length ≤ 16777216) : opAdd (.lst a) (.lst b) h = .ok (.lst (a ++ b)) h := if_pos hl
@[simp] theorem opSub_int {i j : Int} : opSub (.int i) (.int j) h = .ok (.int (i - j)) h := id rfl
@[simp] theorem opDiv_int {i j : Int} (hj : j ≠ 0 ∧ j.natAbs < 1073741824) : opDiv (.int i) (.int j) h = .ok (.int (i.fdiv j)) h := if_pos hj
@[simp] theorem opMod_int {i j : Int} (hj : j ≠ 0) : opMod (.int i) (.int j) h = .ok (.int (i.fmod j)) h := if_pos hj
@[simp] theorem opMul_int {i j : Int} (hb : (-(2 ^ 64) < i ∧ i < 2 ^ 64) ∨ (-(2 ^ 64) < j ∧ j < 2 ^ 64)) : opMul (.int i) (.int j) h = .ok (.int (i * j)) h := if_pos hb
@[simp] theorem opMul_str {a : List Nat} {n : Int} (hb : -1048576 ≤ n ∧ n ≤ 16777216 ∧ a.length * n.toNat ≤ 16777216) : opMul (.str a) (.int n) h = .ok (.str (repL a n)) h := if_pos hb
@[simp] theorem opMul_lst {a : List D} {n : Int} (hb : -1048576 ≤ n ∧ n ≤ 16777216 ∧ a.length * n.toNat ≤ 16777216) : opMul (.lst a) (.int n) h = .ok (.lst (repL a n)) h := if_pos hb
@[simp] theorem opPow_int {i j : Int} (hb : 0 ≤ j ∧ j ≤ 1000000 ∧ i.natAbs < 2 ^ 64) : opPow (.int i) (.int j) h = .ok (.int (i ^ j.toNat)) h := if_pos hb
@[simp] theorem opIAdd_int {i j : Int} : opIAdd (.int i) (.int j) h = .ok (.int (i + j)) h := id rfl
@[simp] theorem opIAdd_str {a b : List Nat} (hl : a.length + b.length ≤ 16777216) : opIAdd (.str a) (.str b) h = .ok (.str (a ++ b)) h := if_pos hl
@[simp] theorem opIMul_int {i j : Int} (hb : (-(2 ^ 64) < i ∧ i < 2 ^ 64) ∨ (-(2 ^ 64) < j ∧ j < 2 ^ 64)) : opIMul (.int i) (.int j) h = .ok (.int (i * j)) h := if_pos hb
@[simp] theorem opCmp_int {p q} {i j : Int} : opCmp p q (.int i) (.int j) h = .ok (.bl (p i j)) h := id rfl
@[simp] theorem opCmp_str {p q} {i j : List Nat} : opCmp p q (.str i) (.str j) h = .ok (.bl (q i j)) h := id rfl
/-- what is not a box -/
def nref : D → Bool
  | .ref _ => false
  | _ => true
theorem unbox_nref {d : D} (n : nref d = true) : unbox h d = d := by cases d <;> first | rfl | cases n
theorem opEq_ok {x y : D} (n : nref x = true) (m : nref y = true) (p : pl 12 x = true) (q : pl 12 y = true) : opEq x y h = .ok (.bl (x.eqv y)) h := by
  unfold opEq
  rw [unbox_nref n, unbox_nref m, p, q]
  rfl
theorem opNe_ok {x y : D} (n : nref x = true) (m : nref y = true) (p : pl 12 x = true) (q : pl 12 y = true) : opNe x y h = .ok (.bl (!x.eqv y)) h := by
  unfold opNe
  rw [unbox_nref n, unbox_nref m, p, q]
  rfl
@[simp] theorem opEq_int {i j : Int} : opEq (.int i) (.int j) h = .ok (.bl (decide (i = j))) h := id rfl
@[simp] theorem opEq_str {i j : List Nat} : opEq (.str i) (.str j) h = .ok (.bl (decide (i = j))) h := id rfl
@[simp] theorem opEq_bl {i j : Bool} : opEq (.bl i) (.bl j) h = .ok (.bl (i == j)) h := id rfl
@[simp] theorem opNe_int {i j : Int} : opNe (.int i) (.int j) h = .ok (.bl (!decide (i = j))) h := id rfl
@[simp] theorem opNe_str {i j : List Nat} : opNe (.str i) (.str j) h = .ok (.bl (!decide (i = j))) h := id rfl
@[simp] theorem opNe_bl {i j : Bool} : opNe (.bl i) (.bl j) h = .ok (.bl (!(i == j))) h := id rfl
@[simp] theorem opEq_tup {a b : List D} (p : pls 11 a = true) (q : pls 11 b = true) : opEq (.tup a) (.tup b) h = .ok (.bl (eqvs a b)) h := opEq_ok rfl rfl p q
@[simp] theorem opEq_lst {a b : List D} (p : pls 11 a = true) (q : pls 11 b = true) : opEq (.lst a) (.lst b) h = .ok (.bl (eqvs a b)) h := opEq_ok rfl rfl p q
@[simp] theorem opNe_tup {a b : List D} (p : pls 11 a = true) (q : pls 11 b = true) : opNe (.tup a) (.tup b) h = .ok (.bl (!eqvs a b)) h := opNe_ok rfl rfl p q
@[simp] theorem opNe_lst {a b : List D} (p : pls 11 a = true) (q : pls 11 b = true) : opNe (.lst a) (.lst b) h = .ok (.bl (!eqvs a b)) h := opNe_ok rfl rfl p q
@[simp] theorem pl_tup {n : Nat} {a : List D} : pl (n + 1) (.tup a) = pls n a := id rfl
@[simp] theorem pl_lst {n : Nat} {a : List D} : pl (n + 1) (.lst a) = pls n a := id rfl
@[simp] theorem pl_int {n : Nat} {i : Int} : pl n (.int i) = true := by cases n <;> rfl
@[simp] theorem pl_str {n : Nat} {i : List Nat} : pl n (.str i) = true := by cases n <;> rfl
@[simp] theorem pl_bl {n : Nat} {i : Bool} : pl n (.bl i) = true := by cases n <;> rfl
@[simp] theorem pl_non {n : Nat} : pl n .non = true := by cases n <;> rfl
@[simp] theorem pls_nil {n : Nat} : pls n [] = true := by cases n <;> rfl
@[simp] theorem pls_cons {n : Nat} {x : D} {xs : List D} : pls n (x :: xs) = (pl n x && pls n xs) := by cases n <;> rfl
@[simp] theorem pls_app {n : Nat} {xs ys : List D} : pls n (xs ++ ys) = (pls n xs && pls n ys) := by
  induction xs with
  | nil => simp
  | cons x xs ih => simp [ih, Bool.and_assoc]
@[simp] theorem pls_map {γ : Type} {n : Nat} {f : γ → D} {xs : List γ} : pls n (xs.map f) = xs.all fun a => pl n (f a) := by
  induction xs with
  | nil => simp
  | cons x xs ih => simp [ih]
@[simp] theorem eqvs_nil : eqvs [] [] = true := id rfl
@[simp] theorem eqvs_nc {y : D} {ys : List D} : eqvs [] (y :: ys) = false := id rfl
@[simp] theorem eqvs_cn {y : D} {ys : List D} : eqvs (y :: ys) [] = false := id rfl
@[simp] theorem eqvs_cons {x y : D} {xs ys : List D} : eqvs (x :: xs) (y :: ys) = (x.eqv y && eqvs xs ys) := id rfl
@[simp] theorem eqv_int {i j : Int} : (D.int i).eqv (.int j) = decide (i = j) := id rfl
@[simp] theorem eqv_str {i j : List Nat} : (D.str i).eqv (.str j) = decide (i = j) := id rfl
@[simp] theorem eqv_bl {i j : Bool} : (D.bl i).eqv (.bl j) = (i == j) := id rfl
@[simp] theorem eqv_tup {a b : List D} : (D.tup a).eqv (.tup b) = eqvs a b := id rfl
@[simp] theorem eqv_lst {a b : List D} : (D.lst a).eqv (.lst b) = eqvs a b := id rfl
/-- values told apart as what they stand for -/
def Faith {γ : Type} (f : γ → D) : Prop := ∀ a b, (f a).eqv (f b) = true ↔ a = b
theorem eqvs_map {γ : Type} {f : γ → D} (hf : Faith f) : ∀ xs ys : List γ, eqvs (xs.map f) (ys.map f) = true ↔ xs = ys
  | [], [] => by simp
  | [], y :: ys => by simp
  | x :: xs, [] => by simp
  | x :: xs, y :: ys => by simp [hf x y, eqvs_map hf xs ys]
theorem eqvs_dec {γ : Type} [DecidableEq γ] {f : γ → D} (hf : Faith f) (xs ys : List γ) : eqvs (xs.map f) (ys.map f) = decide (xs = ys) := by
  rw [Bool.eq_iff_iff, eqvs_map hf xs ys, decide_eq_true_eq]
@[simp] theorem eqvs_map_nil {γ : Type} {f : γ → D} {xs : List γ} : eqvs (xs.map f) [] = decide (xs = []) := by cases xs <;> simp
@[simp] theorem eqvs_nil_map {γ : Type} {f : γ → D} {xs : List γ} : eqvs [] (xs.map f) = decide (xs = []) := by cases xs <;> simp
theorem faith_int : Faith D.int := fun a b => by simp
theorem faith_str : Faith D.str := fun a b => by simp
def ixD (r : Option D) (h : Hc) : R D := match r with
  | some d => .ok d h
  | none => .bad
def ixS (r : Option Nat) (h : Hc) : R D := match r with
  | some c => .ok (.str [c]) h
  | none => .bad
@[simp] theorem ixD_some {d : D} : ixD (some d) h = .ok d h := id rfl
@[simp] theorem ixD_none : ixD none h = .bad := id rfl
@[simp] theorem ixS_some {c : Nat} : ixS (some c) h = .ok (.str [c]) h := id rfl
@[simp] theorem ixS_none : ixS none h = .bad := id rfl
@[simp] theorem opIx_lst {ds : List D} {i : Int} : opIx (.lst ds) (.int i) h = ixD (atI ds i) h := id rfl
@[simp] theorem opIx_tup {ds : List D} {i : Int} : opIx (.tup ds) (.int i) h = ixD (atI ds i) h := id rfl
@[simp] theorem opIx_str {s : List Nat} {i : Int} (hl : s.length ≤ 16777216) : opIx (.str s) (.int i) h = ixS (atI s i) h := if_pos hl
theorem atI_nat {xs : List α} {k : Nat} : atI xs (k : Int) = xs[k]? := by
  unfold atI ixN
  by_cases hk : k < xs.length
  · simp [hk]
  · simp [hk]
theorem atI_pos {xs : List α} {i : Int} (h0 : 0 ≤ i) : atI xs i = xs[i.toNat]? := by
  rw [← atI_nat, Int.toNat_of_nonneg h0]
@[simp] theorem atI_0 {x : α} {xs : List α} : atI (x :: xs) 0 = some x := by
  rw [atI_pos (by omega)]; rfl
@[simp] theorem atI_1 {x y : α} {xs : List α} : atI (x :: y :: xs) 1 = some y := by
  rw [atI_pos (by omega)]; rfl
@[simp] theorem atI_2 {x y z : α} {xs : List α} : atI (x :: y :: z :: xs) 2 = some z := by
  rw [atI_pos (by omega)]; rfl
@[simp] theorem atI_3 {x y z w : α} {xs : List α} : atI (x :: y :: z :: w :: xs) 3 = some w := by
  rw [atI_pos (by omega)]; rfl
theorem atI_map {f : α → β} {xs : List α} {i : Int} : atI (xs.map f) i = (atI xs i).map f := by
  unfold atI
  rw [List.length_map]
  cases ixN xs.length i with
  | none => rfl
  | some k => simp
theorem atI_last {xs : List α} {x : α} : atI (xs ++ [x]) (-1) = some x := by
  unfold atI ixN
  have e : ((xs ++ [x]).length : Int) = xs.length + 1 := by rw [List.length_append]; rfl
  rw [if_neg (by omega), if_pos (by omega)]
  show (xs ++ [x])[(-1 + ((xs ++ [x]).length : Int)).toNat]? = some x
  rw [e, show (-1 + ((xs.length : Int) + 1)).toNat = xs.length by omega]
  simp
@[simp] theorem slOp_lst {ds : List D} {lo hi : Option Int} : slOp (.lst ds) lo hi h = .ok (.lst (cutL ds lo hi)) h := id rfl
@[simp] theorem slOp_scr {ds : List D} {lo hi : Option Int} : slOp (.scr ds) lo hi h = .ok (.lst (cutL ds lo hi)) h := id rfl
@[simp] theorem slOp_tup {ds : List D} {lo hi : Option Int} : slOp (.tup ds) lo hi h = .ok (.tup (cutL ds lo hi)) h := id rfl
@[simp] theorem slOp_str {s : List Nat} {lo hi : Option Int} (hl : s.length ≤ 16777216) : slOp (.str s) lo hi h = .ok (.str (cutL s lo hi)) h := if_pos hl
theorem cutL_map {f : α → β} {xs : List α} {lo hi : Option Int} : cutL (xs.map f) lo hi = (cutL xs lo hi).map f := by
  unfold cutL
  rw [List.length_map, List.map_take, List.map_drop]
theorem sIx_pos {n d : Nat} {i : Int} (h : 0 ≤ i) : HT.sIx n d (some i) = min i.toNat n := by
  simp only [HT.sIx]
  repeat' split
  all_goals omega
theorem cutL_hi {xs : List α} {i : Int} (h : 0 ≤ i) : cutL xs none (some i) = xs.take i.toNat := by
  unfold cutL
  rw [sIx_pos h]
  simp only [HT.sIx, List.drop_zero, Nat.sub_zero]
  rw [List.take_eq_take_iff]
  omega
theorem cutL_lo {xs : List α} {i : Int} (h : 0 ≤ i) : cutL xs (some i) none = xs.drop i.toNat := by
  unfold cutL
  rw [sIx_pos h]
  simp only [HT.sIx]
  by_cases q : i.toNat ≤ xs.length
  · rw [Nat.min_eq_left q]
    apply List.take_of_length_le
    rw [List.length_drop]
    omega
  · rw [Nat.min_eq_right (by omega), List.drop_of_length_le (Nat.le_refl _), List.drop_of_length_le (by omega)]
    simp
theorem cutL_lohi {xs : List α} {i j : Int} (h : 0 ≤ i) (h2 : 0 ≤ j) : cutL xs (some i) (some j) = (xs.take j.toNat).drop i.toNat := by
  unfold cutL
  rw [sIx_pos h, sIx_pos h2, List.drop_take]
  by_cases q : i.toNat ≤ xs.length
  · rw [Nat.min_eq_left q]
    by_cases q2 : j.toNat ≤ xs.length
    · rw [Nat.min_eq_left q2]
    · rw [Nat.min_eq_right (by omega), List.take_of_length_le (by rw [List.length_drop]; omega), List.take_of_length_le (by rw [List.length_drop]; omega)]
  · rw [Nat.min_eq_right (by omega : xs.length ≤ i.toNat), List.drop_of_length_le (Nat.le_refl _), List.drop_of_length_le (by omega)]
    simp
theorem cutL_init {xs : List α} {x : α} : cutL (xs ++ [x]) none (some (-1)) = xs := by
  have e : HT.sIx (xs ++ [x]).length (xs ++ [x]).length (some (-1)) = xs.length := by
    simp [HT.sIx]
    try omega
  unfold cutL
  rw [e]
  simp [HT.sIx]
theorem cutL_len {xs : List α} {lo hi : Option Int} : (cutL xs lo hi).length ≤ xs.length := by
  unfold cutL
  rw [List.length_take, List.length_drop]
  omega
@[simp] theorem opIn_str {c : Nat} {z : List Nat} : opIn (.str [c]) (.str z) h = .ok (.bl (decide (c ∈ z))) h := id rfl
@[simp] theorem opNotIn_str {c : Nat} {z : List Nat} : opNotIn (.str [c]) (.str z) h = .ok (.bl (!decide (c ∈ z))) h := id rfl
@[simp] theorem opIn_int_lst {i : Int} {ds : List D} (p : pls 11 ds = true) : opIn (.int i) (.lst ds) h = .ok (.bl (anyEq (.int i) ds)) h := by
  show (if pl 12 (.int i) && pls 11 ds then R.ok (D.bl (anyEq (.int i) ds)) h else .bad) = _
  rw [p]; rfl
@[simp] theorem opIn_tup_lst {i : List D} {ds : List D} (q : pls 11 i = true) (p : pls 11 ds = true) : opIn (.tup i) (.lst ds) h = .ok (.bl (anyEq (.tup i) ds)) h := by
  show (if pl 12 (.tup i) && pls 11 ds then R.ok (D.bl (anyEq (.tup i) ds)) h else .bad) = _
  rw [p, pl_tup, q]; rfl
@[simp] theorem opIn_int_tup {i : Int} {ds : List D} (p : ds.all flatD = true) : opIn (.int i) (.tup ds) h = .ok (.bl (anyEq (.int i) ds)) h := by
  show (if flatD (.int i) && ds.all flatD then R.ok (D.bl (anyEq (.int i) ds)) h else .bad) = _
  rw [p]; rfl
@[simp] theorem anyEq_nil {x : D} : anyEq x [] = false := id rfl
@[simp] theorem anyEq_cons {x y : D} {ys : List D} : anyEq x (y :: ys) = (y.eqv x || anyEq x ys) := id rfl
@[simp] theorem flatD_int {i : Int} : flatD (.int i) = true := id rfl
@[simp] theorem flatD_str {i : List Nat} : flatD (.str i) = true := id rfl
@[simp] theorem anyEq_ints {i : Int} {xs : List Int} : anyEq (.int i) (xs.map D.int) = decide (i ∈ xs) := by
  unfold anyEq
  rw [Bool.eq_iff_iff]
  simp only [List.any_map, List.any_eq_true, Function.comp, eqv_int, decide_eq_true_eq]
  constructor
  · rintro ⟨x, h, rfl⟩; exact h
  · exact fun h => ⟨i, h, rfl⟩

/-! ### functions that are built in -/
@[simp] theorem bLen_lst {ds : List D} : bLen [.lst ds] h = .ok (.int ds.length) h := id rfl
@[simp] theorem bLen_tup {ds : List D} : bLen [.tup ds] h = .ok (.int ds.length) h := id rfl
@[simp] theorem bLen_str {s : List Nat} (hl : s.length ≤ 16777216) : bLen [.str s] h = .ok (.int s.length) h := if_pos hl
@[simp] theorem bInt_int {i : Int} : bInt [.int i] h = .ok (.int i) h := id rfl
@[simp] theorem bInt_bl {k : Bool} : bInt [.bl k] h = .ok (.int (if k then 1 else 0)) h := id rfl
theorem bInt_str {s : List Nat} (n : s ≠ []) (hl : s.length ≤ 640) (d : ∀ c ∈ s, 48 ≤ c ∧ c ≤ 57) : bInt [.str s] h = .ok (.int (NumText.digitsVal s : Nat)) h :=
  if_pos ⟨n, hl, by rw [List.all_eq_true]; intro c hc; simp [d c hc]⟩
@[simp] theorem bAbs_int {i : Int} : bAbs [.int i] h = .ok (.int (if i < 0 then -i else i)) h := id rfl
@[simp] theorem bMin2_int {i j : Int} : bMin2 [.int i, .int j] h = .ok (.int (if j < i then j else i)) h := id rfl
@[simp] theorem bMax2_int {i j : Int} : bMax2 [.int i, .int j] h = .ok (.int (if j > i then j else i)) h := id rfl
@[simp] theorem ints?_map {γ : Type} {f : γ → Int} {xs : List γ} : ints? (xs.map fun a => D.int (f a)) = some (xs.map f) := by
  induction xs with
  | nil => rfl
  | cons x xs ih => simp [ints?, ih]
@[simp] theorem ints?_comp {γ : Type} {f : γ → Int} {xs : List γ} : ints? (xs.map (D.int ∘ f)) = some (xs.map f) := ints?_map
@[simp] theorem ints?_int {xs : List Int} : ints? (xs.map D.int) = some xs := by
  have := ints?_map (f := fun a : Int => a) (xs := xs)
  simpa using this
def sumR (r : Option (List Int)) (h : Hc) : R D := match r with
  | some ns => .ok (.int ns.sum) h
  | none => .bad
@[simp] theorem sumR_some {ns : List Int} : sumR (some ns) h = .ok (.int ns.sum) h := id rfl
@[simp] theorem bSumA_lst {ds : List D} : bSumA [.lst ds] h = sumR (ints? ds) h := id rfl
@[simp] theorem bSumA_tup {ds : List D} : bSumA [.tup ds] h = sumR (ints? ds) h := id rfl
@[simp] theorem ints?_nil : ints? [] = some [] := id rfl
@[simp] theorem ints?_cons {i : Int} {ds : List D} : ints? (.int i :: ds) = (ints? ds).map (i :: ·) := id rfl
@[simp] theorem strs?_nil : strs? [] = some [] := id rfl
@[simp] theorem strs?_cons {i : List Nat} {ds : List D} : strs? (.str i :: ds) = (strs? ds).map (i :: ·) := id rfl
theorem bMax_lst {ds : List D} {ns : List Int} (e : ints? ds = some ns) (p : 0 < ns.length) : bMax [.lst ds] h = .ok (.int (maxI ns)) h := by
  show (match ints? ds with | some ns => if 0 < ns.length then R.ok (D.int (maxI ns)) h else .bad | none => .bad) = _
  rw [e]; exact if_pos p
theorem bMin_lst {ds : List D} {ns : List Int} (e : ints? ds = some ns) (p : 0 < ns.length) : bMin [.lst ds] h = .ok (.int (minI ns)) h := by
  show (match ints? ds with | some ns => if 0 < ns.length then R.ok (D.int (minI ns)) h else .bad | none => .bad) = _
  rw [e]; exact if_pos p
@[simp] theorem bList_lst {ds : List D} : bList [.lst ds] h = .ok (.lst ds) h := id rfl
@[simp] theorem bList_tup {ds : List D} : bList [.tup ds] h = .ok (.lst ds) h := id rfl
@[simp] theorem bTuple_lst {ds : List D} : bTuple [.lst ds] h = .ok (.tup ds) h := id rfl
@[simp] theorem bTuple_tup {ds : List D} : bTuple [.tup ds] h = .ok (.tup ds) h := id rfl
@[simp] theorem bStr_int {i : Int} (hl : 0 ≤ i ∧ i < 2 ^ 64) : bStr [.int i] h = .ok (.str (numD i)) h := if_pos hl
@[simp] theorem strs?_map {γ : Type} {f : γ → List Nat} {xs : List γ} : strs? (xs.map fun a => D.str (f a)) = some (xs.map f) := by
  induction xs with
  | nil => rfl
  | cons x xs ih => simp [strs?, ih]
@[simp] theorem strs?_comp {γ : Type} {f : γ → List Nat} {xs : List γ} : strs? (xs.map (D.str ∘ f)) = some (xs.map f) := strs?_map
@[simp] theorem strs?_str {xs : List (List Nat)} : strs? (xs.map D.str) = some xs := by
  have := strs?_map (f := fun a : List Nat => a) (xs := xs)
  simpa using this
theorem joinL_nil : ∀ ps : List (List Nat), TL.joinL [] ps = ps.flatten
  | [] => rfl
  | [p] => by simp [TL.joinL]
  | p :: q :: r => by
    have ih := joinL_nil (q :: r)
    simp only [TL.joinL, ih, List.flatten_cons, List.nil_append]
theorem mJoin_ok {ds : List D} {ps : List (List Nat)} (e : strs? ds = some ps) (hl : (ps.map List.length).sum ≤ 16777216) : mJoin (.str []) (.lst ds) h = .ok (.str ps.flatten) h := by
  show (match strs? ds with | some ps => if (ps.map List.length).sum + ps.length * 0 ≤ 16777216 then R.ok (D.str (TL.joinL [] ps)) h else .bad | none => .bad) = _
  rw [e]
  show (if (ps.map List.length).sum + ps.length * 0 ≤ 16777216 then R.ok (D.str (TL.joinL [] ps)) h else .bad) = _
  rw [joinL_nil]
  exact if_pos (by simpa using hl)

/-! ### statements -/
def O.andThen (o : O) (k : Rho → Hc → O) : O := match o with
  | .nx ρ' h' => k ρ' h'
  | o => o
def R.st (r : R α) (ρ : Rho) (k : α → Hc → O) : O := r.toS ρ k
def O.br (r : R Bool) (ρ : Rho) (a b : SM) : O := r.toS ρ fun c h1 => if c = true then a ρ h1 else b ρ h1
def O.put (i : Nat) (ρ : Rho) (r : R D) : O := r.toS ρ fun d h1 => .nx (ρ.set i (.v d)) h1
def O.putN (i : Nat) (ρ : Rho) (r : R D) : O := r.toS ρ fun d h1 => .nx (ρ.set i (.o d)) h1
def O.ret (ρ : Rho) (r : R D) : O := r.toS ρ fun d h1 => .rt d h1
def O.for (t : Tg) (b : SM) (ρ : Rho) (r : R (List D)) : O := r.toS ρ fun ds h1 => loopM t b ds ρ h1
@[simp] theorem sSeq_ap {a b : SM} : sSeq a b ρ h = (a ρ h).andThen b := by
  show (match a ρ h with | .nx ρ' h' => b ρ' h' | o => o) = _
  cases a ρ h <;> rfl
@[simp] theorem O.andThen_nx {k : SM} : (O.nx ρ h).andThen k = k ρ h := id rfl
@[simp] theorem O.andThen_rt {k : SM} {d : D} : (O.rt d h).andThen k = .rt d h := id rfl
@[simp] theorem O.andThen_bk {k : SM} : (O.bk ρ h).andThen k = .bk ρ h := id rfl
@[simp] theorem O.andThen_ct {k : SM} : (O.ct ρ h).andThen k = .ct ρ h := id rfl
@[simp] theorem O.andThen_ex {k : SM} {c : Nat} : (O.ex c ρ h).andThen k = .ex c ρ h := id rfl
@[simp] theorem O.andThen_bad {k : SM} : O.bad.andThen k = .bad := id rfl
@[simp] theorem O.andThen_ite {k : SM} {c : Prop} [Decidable c] {a b : O} : (if c then a else b).andThen k = if c then a.andThen k else b.andThen k := by split <;> rfl
@[simp] theorem O.toR_nx : (O.nx ρ h).toR = .ok .non h := id rfl
@[simp] theorem O.toR_rt {d : D} : (O.rt d h).toR = .ok d h := id rfl
@[simp] theorem O.toR_ex {c : Nat} : (O.ex c ρ h).toR = .ex c h := id rfl
@[simp] theorem O.toR_ite {c : Prop} [Decidable c] {a b : O} : (if c then a else b).toR = if c then a.toR else b.toR := by split <;> rfl
@[simp] theorem sNx_ap : sNx ρ h = .nx ρ h := id rfl
@[simp] theorem sBk_ap : sBk ρ h = .bk ρ h := id rfl
@[simp] theorem sCt_ap : sCt ρ h = .ct ρ h := id rfl
@[simp] theorem sRetN_ap : sRetN ρ h = .rt .non h := id rfl
@[simp] theorem sRaise_ap {c : Nat} : sRaise c ρ h = .ex c ρ h := id rfl
@[simp] theorem sDo_ap {em : EM} : sDo em ρ h = R.toS (em ρ h) ρ fun _ h1 => .nx ρ h1 := id rfl
@[simp] theorem sRet_ap {em : EM} : sRet em ρ h = O.ret ρ (em ρ h) := id rfl
@[simp] theorem O.ret_ok {d : D} : O.ret ρ (.ok d h) = .rt d h := id rfl
@[simp] theorem O.ret_ex {c : Nat} : O.ret ρ (.ex c h) = .ex c ρ h := id rfl
@[simp] theorem O.ret_bad : O.ret ρ .bad = .bad := id rfl
@[simp] theorem sIf_ap {t : TM} {a b : SM} : sIf t a b ρ h = O.br (t ρ h) ρ a b := id rfl
@[simp] theorem O.br_ok {c : Bool} {a b : SM} : O.br (.ok c h) ρ a b = if c = true then a ρ h else b ρ h := id rfl
@[simp] theorem O.br_ex {c : Nat} {a b : SM} : O.br (.ex c h) ρ a b = .ex c ρ h := id rfl
@[simp] theorem O.br_bad {a b : SM} : O.br .bad ρ a b = .bad := id rfl
@[simp] theorem sSet_ap {i : Nat} {em : EM} : sSet i em ρ h = O.put i ρ (em ρ h) := id rfl
@[simp] theorem O.put_ok {i : Nat} {d : D} : O.put i ρ (.ok d h) = .nx (ρ.set i (.v d)) h := id rfl
@[simp] theorem O.put_ex {i : Nat} {c : Nat} : O.put i ρ (.ex c h) = .ex c ρ h := id rfl
@[simp] theorem O.put_bad {i : Nat} : O.put i ρ .bad = .bad := id rfl
@[simp] theorem sSetN_ap {i : Nat} {em : EM} : sSetN i em ρ h = O.putN i ρ (em ρ h) := id rfl
@[simp] theorem O.putN_ok {i : Nat} {d : D} : O.putN i ρ (.ok d h) = .nx (ρ.set i (.o d)) h := id rfl
@[simp] theorem O.putN_ex {i : Nat} {c : Nat} : O.putN i ρ (.ex c h) = .ex c ρ h := id rfl
@[simp] theorem O.putN_bad {i : Nat} : O.putN i ρ .bad = .bad := id rfl
@[simp] theorem sFz_ap {i : Nat} {s : SM} : sFz i s ρ h = match ρ[i]? with
  | some (.o d) => s (ρ.set i (.v d)) h
  | some (.v _) => s ρ h
  | _ => .bad := id rfl
@[simp] theorem sTg_ap {t : Tg} {em : EM} : sTg t em ρ h = R.toS (em ρ h) ρ fun d h1 => match bindD t d ρ with
  | some ρ' => .nx ρ' h1
  | none => .bad := id rfl
@[simp] theorem bindD_n {i : Nat} {d : D} : bindD (.n i) d ρ = some (ρ.set i (.v d)) := id rfl
@[simp] theorem bindD_t {ts : List Tg} {ds : List D} (hl : ts.length = ds.length) : bindD (.t ts) (.tup ds) ρ = bindDs ts ds ρ := if_pos hl
@[simp] theorem bindDs_nil : bindDs [] [] ρ = some ρ := id rfl
@[simp] theorem bindDs_cons {t : Tg} {ts : List Tg} {d : D} {ds : List D} : bindDs (t :: ts) (d :: ds) ρ = match bindD t d ρ with
    | some ρ' => bindDs ts ds ρ'
    | none => none := id rfl
@[simp] theorem loopM_nil {t : Tg} {b : SM} : loopM t b [] ρ h = .nx ρ h := id rfl
def O.turn (t : Tg) (b : SM) (ds : List D) (o : O) : O := match o with
  | .nx ρ2 h2 => loopM t b ds ρ2 h2
  | .ct ρ2 h2 => loopM t b ds ρ2 h2
  | .bk ρ2 h2 => .nx ρ2 h2
  | o => o
theorem loopM_cons {t : Tg} {b : SM} {d : D} {ds : List D} {ρ1 : Rho} (e : bindD t d ρ = some ρ1) : loopM t b (d :: ds) ρ h = O.turn t b ds (b ρ1 h) := by
  simp only [loopM, e]
  cases b ρ1 h <;> rfl
theorem loopM_ref {b : SM} {i n : Nat} {ds : List D} : loopM (.n i) b (.ref n :: ds) ρ h = O.turn (.n i) b ds (b (ρ.set i (.v (.ref n))) h) := loopM_cons rfl
def O.last (o : O) : O := match o with
  | .nx ρ2 h2 => .nx ρ2 h2
  | .ct ρ2 h2 => .nx ρ2 h2
  | .bk ρ2 h2 => .nx ρ2 h2
  | o => o
@[simp] theorem O.last_nx : O.last (.nx ρ h) = .nx ρ h := id rfl
@[simp] theorem O.last_ct : O.last (.ct ρ h) = .nx ρ h := id rfl
@[simp] theorem O.last_bk : O.last (.bk ρ h) = .nx ρ h := id rfl
theorem loopM_one {b : SM} {i n : Nat} : loopM (.n i) b [.ref n] ρ h = O.last (b (ρ.set i (.v (.ref n))) h) := by
  rw [loopM_ref]
  cases b (ρ.set i (.v (.ref n))) h <;> rfl
@[simp] theorem O.turn_nx {t : Tg} {b : SM} {ds : List D} : O.turn t b ds (.nx ρ h) = loopM t b ds ρ h := id rfl
@[simp] theorem sFor_ap {t : Tg} {im : IM} {b : SM} : sFor t im b ρ h = O.for t b ρ (im ρ h) := id rfl
@[simp] theorem O.for_ok {t : Tg} {b : SM} {ds : List D} : O.for t b ρ (.ok ds h) = loopM t b ds ρ h := id rfl
@[simp] theorem O.for_ex {t : Tg} {b : SM} {c : Nat} : O.for t b ρ (.ex c h) = .ex c ρ h := id rfl
def O.par1 (i j : Nat) (ρ : Rho) (r : R Sl) (f : Hc → R Sl) : O := r.toS ρ fun x h1 => (f h1).toS ρ fun y h2 => .nx ((ρ.set i x).set j y) h2
def O.par2 (i j : Nat) (ρ : Rho) (x : Sl) (r : R Sl) : O := r.toS ρ fun y h2 => .nx ((ρ.set i x).set j y) h2
@[simp] theorem sPar_ap {i j : Nat} {a b : VM} : sPar i j a b ρ h = O.par1 i j ρ (a ρ h) (b ρ) := id rfl
@[simp] theorem O.par1_ok {i j : Nat} {x : Sl} {f} : O.par1 i j ρ (.ok x h) f = O.par2 i j ρ x (f h) := id rfl
@[simp] theorem O.par2_ok {i j : Nat} {x y : Sl} : O.par2 i j ρ x (.ok y h) = .nx ((ρ.set i x).set j y) h := id rfl
def O.tri1 (i j l : Nat) (ρ : Rho) (r : R D) (f g : Hc → R D) : O := r.toS ρ fun x h1 => (f h1).toS ρ fun y h2 => (g h2).toS ρ fun z h3 => .nx (((ρ.set i (.v x)).set j (.v y)).set l (.v z)) h3
def O.tri2 (i j l : Nat) (ρ : Rho) (x : D) (r : R D) (g : Hc → R D) : O := r.toS ρ fun y h2 => (g h2).toS ρ fun z h3 => .nx (((ρ.set i (.v x)).set j (.v y)).set l (.v z)) h3
def O.tri3 (i j l : Nat) (ρ : Rho) (x y : D) (r : R D) : O := r.toS ρ fun z h3 => .nx (((ρ.set i (.v x)).set j (.v y)).set l (.v z)) h3
@[simp] theorem sPar3_ap {i j l : Nat} {a b c : EM} : sPar3 i j l a b c ρ h = O.tri1 i j l ρ (a ρ h) (b ρ) (c ρ) := id rfl
@[simp] theorem O.tri1_ok {i j l : Nat} {x : D} {f g} : O.tri1 i j l ρ (.ok x h) f g = O.tri2 i j l ρ x (f h) g := id rfl
@[simp] theorem O.tri2_ok {i j l : Nat} {x y : D} {g} : O.tri2 i j l ρ x (.ok y h) g = O.tri3 i j l ρ x y (g h) := id rfl
@[simp] theorem O.tri3_ok {i j l : Nat} {x y z : D} : O.tri3 i j l ρ x y (.ok z h) = .nx (((ρ.set i (.v x)).set j (.v y)).set l (.v z)) h := id rfl
def O.aug (i : Nat) (op : D → D → Hc → R D) (ρ : Rho) (s : Option Sl) (f : Hc → R D) (h : Hc) : O := match s with
  | some (.v x) => (f h).toS ρ fun y h1 => (op x y h1).toS ρ fun z h2 => .nx (ρ.set i (.v z)) h2
  | _ => .bad
@[simp] theorem sAug_ap {i : Nat} {op} {em : EM} : sAug i op em ρ h = O.aug i op ρ ρ[i]? (em ρ) h := by
  unfold sAug O.aug
  rfl
def O.aug2 (i : Nat) (op : D → D → Hc → R D) (ρ : Rho) (x : D) (r : R D) : O := r.toS ρ fun y h1 => O.put i ρ (op x y h1)
@[simp] theorem O.aug_v {i : Nat} {op} {x : D} {f} : O.aug i op ρ (some (.v x)) f h = O.aug2 i op ρ x (f h) := id rfl
@[simp] theorem O.aug2_ok {i : Nat} {op} {x y : D} : O.aug2 i op ρ x (.ok y h) = O.put i ρ (op x y h) := id rfl
@[simp] theorem held_o {i : Nat} {d : D} (e : ρ[i]? = some (.o d)) : held ρ h i = d := by unfold held; rw [e]
@[simp] theorem isL_lst {ds : List D} : isL (.lst ds) = true := id rfl
/-! ### held lists -/
def O.wmR (i : Nat) (ρ : Rho) (h : Hc) (r : Option (List D × D)) : O := match r with
  | some (ds', _) => .nx (ρ.set i (.o (.lst ds'))) h
  | none => .bad
def O.wmD (b : WM) (i : Nat) (ρ : Rho) (ds : List D) (r : R (List D)) : O := r.toS ρ fun xs h1 => O.wmR i ρ h1 (b ds xs)
def O.wmS (b : WM) (i : Nat) (am : AM) (ρ : Rho) (h : Hc) (s : Option Sl) : O := match s with
  | some (.o (.lst ds)) => O.wmD b i ρ ds (am ρ h)
  | _ => if isL (held ρ h i) then (am ρ h).toS ρ fun xs h1 => mLst ρ h1 i b xs fun _ ρ h => .nx ρ h else .bad
@[simp] theorem sWm_ap {b : WM} {i : Nat} {am : AM} : sWm b i am ρ h = O.wmS b i am ρ h ρ[i]? := by
  unfold O.wmS
  split
  · rename_i ds e
    unfold sWm O.wmD
    rw [held_o e, isL_lst, if_pos rfl]
    cases am ρ h with
    | ok xs h1 =>
      show mLst ρ h1 i b xs _ = O.wmR i ρ h1 (b ds xs)
      unfold mLst O.wmR
      rw [held_o e]
      cases q : b ds xs with
      | none => simp only [q]
      | some p =>
        obtain ⟨ds', w⟩ := p
        simp only [q]
        unfold Z.put
        rw [e]
    | ex c h1 => rfl
    | bad => rfl
  · rfl
@[simp] theorem O.wmS_o {b : WM} {i : Nat} {am : AM} {ds : List D} : O.wmS b i am ρ h (some (.o (.lst ds))) = O.wmD b i ρ ds (am ρ h) := id rfl
@[simp] theorem O.wmD_ok {b : WM} {i : Nat} {ds xs : List D} : O.wmD b i ρ ds (.ok xs h) = O.wmR i ρ h (b ds xs) := id rfl
@[simp] theorem O.wmD_ex {b : WM} {i : Nat} {ds : List D} {c : Nat} : O.wmD b i ρ ds (.ex c h) = .ex c ρ h := id rfl
@[simp] theorem O.wmR_some {i : Nat} {ds : List D} {w : D} : O.wmR i ρ h (some (ds, w)) = .nx (ρ.set i (.o (.lst ds))) h := id rfl
@[simp] theorem wAppend_ok {ds : List D} {x : D} (hl : ds.length < 16777216) : wAppend ds [x] = some (ds ++ [x], .non) := if_pos hl
def O.extR (i : Nat) (ρ : Rho) (h : Hc) (ds : List D) (r : Option (List D)) : O := match r with
  | some es => if ds.length + es.length ≤ 16777216 then .nx (ρ.set i (.o (.lst (ds ++ es)))) h else .bad
  | none => .bad
def O.extD (i : Nat) (ρ : Rho) (ds : List D) (r : R D) : O := r.toS ρ fun y h1 => O.extR i ρ h1 ds (itemsL h1 y)
def O.extS (i : Nat) (em : EM) (ρ : Rho) (h : Hc) (s : Option Sl) : O := match s with
  | some (.o (.lst ds)) => O.extD i ρ ds (em ρ h)
  | _ => if isL (held ρ h i) then (em ρ h).toS ρ fun y h1 => (match held ρ h1 i, itemsL h1 y with
  | .lst ds, some es => if ds.length + es.length ≤ 16777216 then Z.put ρ h1 i (.lst (ds ++ es)) fun ρ' h' => .nx ρ' h' else .bad
  | _, _ => .bad) else .bad
@[simp] theorem sExt_ap {i : Nat} {em : EM} : sExt i em ρ h = O.extS i em ρ h ρ[i]? := by
  unfold O.extS
  split
  · rename_i ds e
    unfold sExt O.extD
    rw [held_o e, isL_lst, if_pos rfl]
    cases em ρ h with
    | ok y h1 =>
      simp only [R.toS_ok, held_o e]
      unfold O.extR
      cases itemsL h1 y with
      | none => rfl
      | some es =>
        simp only
        unfold Z.put
        rw [e]
    | ex c h1 => rfl
    | bad => rfl
  · rfl
@[simp] theorem O.extS_o {i : Nat} {em : EM} {ds : List D} : O.extS i em ρ h (some (.o (.lst ds))) = O.extD i ρ ds (em ρ h) := id rfl
@[simp] theorem O.extD_ok {i : Nat} {ds es : List D} (hl : ds.length + es.length ≤ 16777216) : O.extD i ρ ds (.ok (.lst es) h) = .nx (ρ.set i (.o (.lst (ds ++ es)))) h := if_pos hl
@[simp] theorem O.extD_ex {i : Nat} {ds : List D} {c : Nat} : O.extD i ρ ds (.ex c h) = .ex c ρ h := id rfl
def O.putR (i : Nat) (ρ : Rho) (h : Hc) (ds : List D) (v k : D) : O := match k with
  | .int n => (match ixN ds.length n with
    | some j => .nx (ρ.set i (.o (.lst (ds.set j v)))) h
    | none => .bad)
  | _ => .bad
def O.putK (i : Nat) (ρ : Rho) (ds : List D) (v : D) (r : R D) : O := r.toS ρ fun k h2 => O.putR i ρ h2 ds v k
def O.putD (i : Nat) (ek : EM) (ρ : Rho) (ds : List D) (r : R D) : O := r.toS ρ fun v h1 => O.putK i ρ ds v (ek ρ h1)
def O.putS (i : Nat) (ek ev : EM) (ρ : Rho) (h : Hc) (s : Option Sl) : O := match s with
  | some (.o (.lst ds)) => O.putD i ek ρ ds (ev ρ h)
  | _ => if isL (held ρ h i) then (ev ρ h).toS ρ fun v h1 => (ek ρ h1).toS ρ fun k h2 => putAt ρ h2 i k v fun ρ' h' => .nx ρ' h' else .bad
theorem putAt_o {i : Nat} {ds : List D} {k v : D} (e : ρ[i]? = some (.o (.lst ds))) : (putAt ρ h i k v fun ρ' h' => .nx ρ' h') = O.putR i ρ h ds v k := by
  unfold putAt
  rw [held_o e]
  unfold O.putR
  cases k with
  | int n =>
    simp only
    cases ixN ds.length n with
    | none => rfl
    | some j =>
      simp only
      unfold Z.put
      rw [e]
  | _ => rfl
@[simp] theorem sPut_ap {i : Nat} {ek ev : EM} : sPut i ek ev ρ h = O.putS i ek ev ρ h ρ[i]? := by
  unfold O.putS
  split
  · rename_i ds e
    unfold sPut O.putD
    rw [held_o e, isL_lst, if_pos rfl]
    simp only [putAt_o e]
    rfl
  · rfl
@[simp] theorem O.putS_o {i : Nat} {ek ev : EM} {ds : List D} : O.putS i ek ev ρ h (some (.o (.lst ds))) = O.putD i ek ρ ds (ev ρ h) := id rfl
@[simp] theorem O.putD_ok {i : Nat} {ek : EM} {ds : List D} {v : D} : O.putD i ek ρ ds (.ok v h) = O.putK i ρ ds v (ek ρ h) := id rfl
@[simp] theorem O.putD_ex {i : Nat} {ek : EM} {ds : List D} {c : Nat} : O.putD i ek ρ ds (.ex c h) = .ex c ρ h := id rfl
@[simp] theorem O.putK_ok {i : Nat} {ds : List D} {v k : D} : O.putK i ρ ds v (.ok k h) = O.putR i ρ h ds v k := id rfl
def O.putJ (i : Nat) (ρ : Rho) (h : Hc) (ds : List D) (v : D) (r : Option Nat) : O := match r with
  | some j => .nx (ρ.set i (.o (.lst (ds.set j v)))) h
  | none => .bad
@[simp] theorem O.putR_int {i : Nat} {ds : List D} {v : D} {n : Int} : O.putR i ρ h ds v (.int n) = O.putJ i ρ h ds v (ixN ds.length n) := id rfl
@[simp] theorem O.putJ_some {i : Nat} {ds : List D} {v : D} {j : Nat} : O.putJ i ρ h ds v (some j) = .nx (ρ.set i (.o (.lst (ds.set j v)))) h := id rfl
theorem ixN_pos {n : Nat} {i : Int} (h0 : 0 ≤ i) (h1 : i < n) : ixN n i = some i.toNat := by
  unfold ixN
  rw [if_pos h0, if_pos h1]
theorem ixN_nat {n k : Nat} (h1 : k < n) : ixN n (k : Int) = some k := by rw [ixN_pos (by omega) (by omega)]; rfl
theorem ixN_last {n : Nat} : ixN (n + 1) (-1) = some n := by
  unfold ixN
  rw [if_neg (by omega), if_pos (by omega)]
  congr 1
  omega
def O.pauR (i : Nat) (op : D → D → Hc → R D) (ρ : Rho) (ds : List D) (k : D) (r : R D) : O := r.toS ρ fun z h => O.putR i ρ h ds z k
def O.pauY (i : Nat) (op : D → D → Hc → R D) (ρ : Rho) (ds : List D) (k x : D) (r : R D) : O := r.toS ρ fun y h3 => O.pauR i op ρ ds k (op x y h3)
def O.pauX (i : Nat) (op : D → D → Hc → R D) (ev : EM) (ρ : Rho) (ds : List D) (k : D) (r : R D) : O := r.toS ρ fun x h2 => O.pauY i op ρ ds k x (ev ρ h2)
def O.pauD (i : Nat) (op : D → D → Hc → R D) (ev : EM) (ρ : Rho) (ds : List D) (r : R D) : O := r.toS ρ fun k h1 => O.pauX i op ev ρ ds k (opIx (.lst ds) k h1)
def O.pauS (i : Nat) (op : D → D → Hc → R D) (ek ev : EM) (ρ : Rho) (h : Hc) (s : Option Sl) : O := match s with
  | some (.o (.lst ds)) => O.pauD i op ev ρ ds (ek ρ h)
  | _ => if isL (held ρ h i) then (ek ρ h).toS ρ fun k h1 => (opIx (held ρ h1 i) k h1).toS ρ fun x h2 => (ev ρ h2).toS ρ fun y h3 => (op x y h3).toS ρ fun z h4 => putAt ρ h4 i k z fun ρ' h' => .nx ρ' h' else .bad
@[simp] theorem sPutAug_ap {i : Nat} {op} {ek ev : EM} : sPutAug i op ek ev ρ h = O.pauS i op ek ev ρ h ρ[i]? := by
  unfold O.pauS
  split
  · rename_i ds e
    unfold sPutAug O.pauD
    rw [held_o e, isL_lst, if_pos rfl]
    simp only [putAt_o e, held_o e]
    rfl
  · rfl
@[simp] theorem O.pauS_o {i : Nat} {op} {ek ev : EM} {ds : List D} : O.pauS i op ek ev ρ h (some (.o (.lst ds))) = O.pauD i op ev ρ ds (ek ρ h) := id rfl
@[simp] theorem O.pauD_ok {i : Nat} {op} {ev : EM} {ds : List D} {k : D} : O.pauD i op ev ρ ds (.ok k h) = O.pauX i op ev ρ ds k (opIx (.lst ds) k h) := id rfl
@[simp] theorem O.pauX_ok {i : Nat} {op} {ev : EM} {ds : List D} {k x : D} : O.pauX i op ev ρ ds k (.ok x h) = O.pauY i op ρ ds k x (ev ρ h) := id rfl
@[simp] theorem O.pauY_ok {i : Nat} {op} {ds : List D} {k x y : D} : O.pauY i op ρ ds k x (.ok y h) = O.pauR i op ρ ds k (op x y h) := id rfl
@[simp] theorem O.pauR_ok {i : Nat} {op} {ds : List D} {k z : D} : O.pauR i op ρ ds k (.ok z h) = O.putR i ρ h ds z k := id rfl
@[simp] theorem sWhile_ap {n : Nat} {t : TM} {b : SM} : sWhile n t b ρ h = whileM t b n ρ h := id rfl

@[simp] theorem repL_length {s : List α} {n : Int} : (repL s n).length = n.toNat * s.length := by
  unfold repL
  induction n.toNat with
  | zero => simp
  | succ n ih => rw [List.replicate_succ, List.flatten_cons, List.length_append, ih, Nat.succ_mul, Nat.add_comm]

/-! ### where ways meet -/
@[simp] theorem ok_ite {c : Prop} [Decidable c] {x y : D} : (if c then R.ok x h else R.ok y h) = R.ok (if c then x else y) h := by split <;> rfl
@[simp] theorem okb_ite {c : Prop} [Decidable c] {x y : Bool} : (if c then R.ok x h else R.ok y h) = R.ok (if c then x else y) h := by split <;> rfl
@[simp] theorem str_ite {c : Prop} [Decidable c] {x y : List Nat} : (if c then D.str x else D.str y) = D.str (if c then x else y) := by split <;> rfl
@[simp] theorem int_ite {c : Prop} [Decidable c] {x y : Int} : (if c then D.int x else D.int y) = D.int (if c then x else y) := by split <;> rfl
@[simp] theorem bl_ite {c : Prop} [Decidable c] {x y : Bool} : (if c then D.bl x else D.bl y) = D.bl (if c then x else y) := by split <;> rfl
@[simp] theorem lst_ite {c : Prop} [Decidable c] {x y : List D} : (if c then D.lst x else D.lst y) = D.lst (if c then x else y) := by split <;> rfl
@[simp] theorem tup_ite {c : Prop} [Decidable c] {x y : List D} : (if c then D.tup x else D.tup y) = D.tup (if c then x else y) := by split <;> rfl
end
end Z

/-! Zt: loops, comprehensions, ranges with a step: what they come to -/
namespace Z
open PySem PySem.Spec L2
section
variable {ρ : Rho} {h : Hc} {α β : Type}
/-- a loop and what holds of it turn by turn; slots that no one reads may differ -/
theorem loop_P {t : Tg} {b : SM} (P : Nat → Rho → Hc → Prop) : ∀ (ds : List D) (i : Nat) (ρ : Rho) (h : Hc), P i ρ h →
    (∀ j d ρ h, ds[j]? = some d → P (i + j) ρ h → ∃ ρ1, bindD t d ρ = some ρ1 ∧ ∃ ρ' h', (b ρ1 h = .nx ρ' h' ∨ b ρ1 h = .ct ρ' h') ∧ P (i + j + 1) ρ' h') → ∃ ρ' h', loopM t b ds ρ h = .nx ρ' h' ∧ P (i + ds.length) ρ' h'
  | [], i, ρ, h, p, _ => ⟨ρ, h, rfl, p⟩
  | d :: ds, i, ρ, h, p, st => by
    obtain ⟨ρ1, e1, ρ2, h2, e2, p2⟩ := st 0 d ρ h rfl p
    obtain ⟨ρ3, h3, e3, p3⟩ := loop_P P ds (i + 1) ρ2 h2 p2 fun j d' ρ' h' e q => by
      have := st (j + 1) d' ρ' h' e (by rw [show i + (j + 1) = i + 1 + j by omega]; exact q)
      rw [show i + (j + 1) + 1 = i + 1 + j + 1 by omega] at this
      exact this
    refine ⟨ρ3, h3, ?_, by rw [List.length_cons, show i + (ds.length + 1) = i + 1 + ds.length by omega]; exact p3⟩
    rcases e2 with e2 | e2
    · simp only [loopM, e1, e2, e3]
    · simp only [loopM, e1, e2, e3]
/-- a loop that folds: rho tells the slots of a state, ok what holds of it behind so many turns -/
theorem loop_eqI {t : Tg} {b : SM} (enc : α → D) (rho : β → Rho) (f : β → α → β) (ok : Nat → β → Prop) (h : Hc) : ∀ (xs : List α) (i : Nat) (s : β), ok i s →
    (∀ j a s, xs[j]? = some a → ok (i + j) s → ∃ ρ1, bindD t (enc a) (rho s) = some ρ1 ∧ (b ρ1 h = .nx (rho (f s a)) h ∨ b ρ1 h = .ct (rho (f s a)) h) ∧ ok (i + j + 1) (f s a)) →
    loopM t b (xs.map enc) (rho s) h = .nx (rho (xs.foldl f s)) h ∧ ok (i + xs.length) (xs.foldl f s)
  | [], i, s, o, _ => ⟨rfl, o⟩
  | a :: xs, i, s, o, st => by
    obtain ⟨ρ1, e1, e2, o2⟩ := st 0 a s rfl o
    obtain ⟨e3, o3⟩ := loop_eqI enc rho f ok h xs (i + 1) (f s a) o2 fun j a' s' e q => by
      have := st (j + 1) a' s' e (by rw [show i + (j + 1) = i + 1 + j by omega]; exact q)
      rw [show i + (j + 1) + 1 = i + 1 + j + 1 by omega] at this
      exact this
    refine ⟨?_, by rw [List.length_cons, show i + (xs.length + 1) = i + 1 + xs.length by omega]; exact o3⟩
    rcases e2 with e2 | e2
    · simp only [List.map_cons, loopM, e1, e2, e3, List.foldl_cons]
    · simp only [List.map_cons, loopM, e1, e2, e3, List.foldl_cons]
/-- a loop that folds, ahead of the rest of a def -/
theorem for_eq {t : Tg} {b : SM} (enc : α → D) (rho : β → Rho) (f : β → α → β) (ok : Nat → β → Prop) (xs : List α) (s : β) {k : SM} {r : R D} (h0 : ok 0 s)
    (st : ∀ j a s, xs[j]? = some a → ok j s → ∃ ρ1, bindD t (enc a) (rho s) = some ρ1 ∧ (b ρ1 h = .nx (rho (f s a)) h ∨ b ρ1 h = .ct (rho (f s a)) h) ∧ ok (j + 1) (f s a))
    (hk : ok xs.length (xs.foldl f s) → ((O.nx (rho (xs.foldl f s)) h).andThen k).toR = r) : ((loopM t b (xs.map enc) (rho s) h).andThen k).toR = r := by
  obtain ⟨e, o⟩ := loop_eqI enc rho f ok h xs 0 s h0 fun j a s e o => by
    rw [Nat.zero_add] at o
    rw [Nat.zero_add]
    exact st j a s e o
  rw [Nat.zero_add] at o
  rw [e]
  exact hk o
theorem fold_ok (f : β → α → β) (ok : Nat → β → Prop) (xs : List α) (s : β) (h0 : ok 0 s) (st : ∀ j a s, xs[j]? = some a → ok j s → ok (j + 1) (f s a)) : ok xs.length (xs.foldl f s) := by
  have fo : ∀ j, j ≤ xs.length → ok j ((xs.take j).foldl f s) := by
    intro j
    induction j with
    | zero => intro _; exact h0
    | succ j ih =>
      intro hj
      have e : xs[j]? = some xs[j] := List.getElem?_eq_getElem (by omega)
      rw [List.take_succ, e, List.foldl_append]
      exact st j _ _ e (ih (by omega))
  have := fo _ (Nat.le_refl _)
  rwa [List.take_length] at this
/-- a loop wherever it stands -/
theorem loop_at {t : Tg} {b : SM} {ρ0 : Rho} (enc : α → D) (rho : β → Rho) (f : β → α → β) (ok : Nat → β → Prop) (xs : List α) (s : β) (e : ρ0 = rho s) (h0 : ok 0 s)
    (st : ∀ j a s, xs[j]? = some a → ok j s → ∃ ρ1, bindD t (enc a) (rho s) = some ρ1 ∧ (b ρ1 h = .nx (rho (f s a)) h ∨ b ρ1 h = .ct (rho (f s a)) h) ∧ ok (j + 1) (f s a)) : loopM t b (xs.map enc) ρ0 h = .nx (rho (xs.foldl f s)) h := by
  subst e
  exact (loop_eqI enc rho f ok h xs 0 s h0 fun j a s e o => by
    rw [Nat.zero_add] at o
    rw [Nat.zero_add]
    exact st j a s e o).1
/-- a comprehension whose parts touch nothing -/
theorem lc_eq {t : Tg} {em : EM} (enc val : α → D) (xs : List α) (hl : xs.length ≤ 16777216) (st : ∀ a ∈ xs, ∃ ρ1, bindD t (enc a) ρ = some ρ1 ∧ em ρ1 h = .ok (val a) h) : R.lc t tYesM em ρ (.ok (xs.map enc) h) = .ok (.lst (xs.map val)) h := by
  have main : ∀ xs : List α, (∀ a ∈ xs, ∃ ρ1, bindD t (enc a) ρ = some ρ1 ∧ em ρ1 h = .ok (val a) h) → lcLoop t tYesM em ρ (xs.map enc) h = .ok (xs.map val) h := by
    intro xs
    induction xs with
    | nil => intro _; rfl
    | cons a xs ih =>
      intro st
      obtain ⟨ρ1, e1, e2⟩ := st a List.mem_cons_self
      simp [lcLoop, e1, tYesM, e2, ih fun b hb => st b (List.mem_cons_of_mem _ hb), R.nox]
  show (if (xs.map enc).length ≤ 16777216 then (lcLoop t tYesM em ρ (xs.map enc) h).bind fun ys h2 => R.ok (D.lst ys) h2 else .bad) = _
  rw [if_pos (by rw [List.length_map]; exact hl), main xs st]
  rfl
/-- one with a test -/
theorem lc_fil {t : Tg} {tt : TM} {em : EM} (enc val : α → D) (p : α → Bool) (xs : List α) (hl : xs.length ≤ 16777216) (st : ∀ a ∈ xs, ∃ ρ1, bindD t (enc a) ρ = some ρ1 ∧ tt ρ1 h = .ok (p a) h ∧ (p a = true → em ρ1 h = .ok (val a) h)) : R.lc t tt em ρ (.ok (xs.map enc) h) = .ok (.lst ((xs.filter p).map val)) h := by
  have main : ∀ xs : List α, (∀ a ∈ xs, ∃ ρ1, bindD t (enc a) ρ = some ρ1 ∧ tt ρ1 h = .ok (p a) h ∧ (p a = true → em ρ1 h = .ok (val a) h)) → lcLoop t tt em ρ (xs.map enc) h = .ok ((xs.filter p).map val) h := by
    intro xs
    induction xs with
    | nil => intro _; rfl
    | cons a xs ih =>
      intro st
      obtain ⟨ρ1, e1, e2, e3⟩ := st a List.mem_cons_self
      have ih := ih fun b hb => st b (List.mem_cons_of_mem _ hb)
      cases q : p a with
      | true => simp [lcLoop, e1, e2, e3 q, ih, R.nox, List.filter_cons, q]
      | false => simp [lcLoop, e1, e2, ih, R.nox, List.filter_cons, q]
  show (if (xs.map enc).length ≤ 16777216 then (lcLoop t tt em ρ (xs.map enc) h).bind fun ys h2 => R.ok (D.lst ys) h2 else .bad) = _
  rw [if_pos (by rw [List.length_map]; exact hl), main xs st]
  rfl
/-- one whose parts draw: P holds of the heap, Q of each answer -/
theorem lc_draw {t : Tg} {em : EM} (P : Hc → Prop) (enc : β → D) (Q : β → Prop) : ∀ (ds : List D) (h : Hc), P h → (∀ d ∈ ds, ∀ h, P h → ∃ ρ1, bindD t d ρ = some ρ1 ∧ ∃ v h', em ρ1 h = .ok (enc v) h' ∧ Q v ∧ P h') →
    ∃ (vs : List β) (h' : Hc), lcLoop t tYesM em ρ ds h = .ok (vs.map enc) h' ∧ vs.length = ds.length ∧ (∀ v ∈ vs, Q v) ∧ P h'
  | [], h, p, _ => ⟨[], h, rfl, rfl, (fun _ z => nomatch z), p⟩
  | d :: ds, h, p, st => by
    obtain ⟨ρ1, e1, v, h1, e2, q, p1⟩ := st d List.mem_cons_self h p
    obtain ⟨vs, h2, e3, hl, qs, p2⟩ := lc_draw P enc Q ds h1 p1 fun d' hd => st d' (List.mem_cons_of_mem _ hd)
    exact ⟨v :: vs, h2, by simp [lcLoop, e1, tYesM, e2, e3, R.nox], by simp [hl], fun x hx => (List.mem_cons.mp hx).elim (fun z => z ▸ q) (qs x), p2⟩
theorem R.lc_of {t : Tg} {tt : TM} {em : EM} {ds ys : List D} {h h' : Hc} (hl : ds.length ≤ 16777216) (e : lcLoop t tt em ρ ds h = .ok ys h') : R.lc t tt em ρ (.ok ds h) = .ok (.lst ys) h' := by
  show (if ds.length ≤ 16777216 then (lcLoop t tt em ρ ds h).bind fun ys h2 => R.ok (D.lst ys) h2 else .bad) = _
  rw [if_pos hl, e]
  rfl
theorem genL_eq {t : Tg} {em : EM} (enc val : α → D) : ∀ (xs : List α), (∀ a ∈ xs, ∃ ρ1, bindD t (enc a) ρ = some ρ1 ∧ em ρ1 h = .ok (val a) h) → genL t tYesM em ρ (xs.map enc) h = (xs.map fun a => (val a, h), some h)
  | [], _ => rfl
  | a :: xs, st => by
    obtain ⟨ρ1, e1, e2⟩ := st a List.mem_cons_self
    have ih := genL_eq enc val xs fun b hb => st b (List.mem_cons_of_mem _ hb)
    simp only [List.map_cons, genL, e1, tYesM, e2, ih]
theorem genL_fil {t : Tg} {tt : TM} {em : EM} (enc val : α → D) (p : α → Bool) : ∀ (xs : List α), (∀ a ∈ xs, ∃ ρ1, bindD t (enc a) ρ = some ρ1 ∧ tt ρ1 h = .ok (p a) h ∧ (p a = true → em ρ1 h = .ok (val a) h)) → genL t tt em ρ (xs.map enc) h = ((xs.filter p).map fun a => (val a, h), some h)
  | [], _ => rfl
  | a :: xs, st => by
    obtain ⟨ρ1, e1, e2, e3⟩ := st a List.mem_cons_self
    have ih := genL_fil enc val p xs fun b hb => st b (List.mem_cons_of_mem _ hb)
    cases q : p a with
    | true => simp only [List.map_cons, genL, e1, e2, e3 q, ih, List.filter_cons, q, if_true]
    | false => simp [List.map_cons, genL, e1, e2, ih, List.filter_cons, q]
theorem R.gen_of {γ : Type} {t : Tg} {tt : TM} {em : EM} {k : List (D × Hc) → Hc → R γ} {ds : List D} {yl : List (D × Hc)} {hE : Hc} (hl : ds.length ≤ 16777216) (e : genL t tt em ρ ds h = (yl, some hE)) : R.gen t tt em k ρ (.ok ds h) = k yl hE := by
  show (if ds.length ≤ 16777216 then (match genL t tt em ρ ds h with
  | (yl, some hE) => k yl hE
  | _ => .bad) else .bad) = _
  rw [if_pos hl, e]
theorem anyC_eq (p : α → Bool) (h : Hc) : ∀ xs : List α, anyC (xs.map fun a => (D.bl (p a), h)) h = .ok (.bl (xs.any p)) h
  | [] => rfl
  | a :: xs => by
    cases e : p a with
    | true => simp [anyC, e]
    | false => simp [anyC, e, anyC_eq p h xs]
theorem allC_eq (p : α → Bool) (h : Hc) : ∀ xs : List α, allC (xs.map fun a => (D.bl (p a), h)) h = .ok (.bl (xs.all p)) h
  | [] => rfl
  | a :: xs => by
    cases e : p a with
    | false => simp [allC, e]
    | true => simp [allC, e, allC_eq p h xs]
theorem sumC_eq (f : α → Int) (h : Hc) : ∀ (xs : List α) (acc : Int), 0 ≤ acc → (∀ a ∈ xs, 0 ≤ f a) → acc + (xs.map f).sum < 2 ^ 63 → sumC acc (xs.map fun a => (D.int (f a), h)) h = .ok (.int (acc + (xs.map f).sum)) h
  | [], acc, _, _, _ => by simp [sumC]
  | a :: xs, acc, h0, hf, hb => by
    have f0 := hf a List.mem_cons_self
    have s0 : 0 ≤ (xs.map f).sum := by
      have : ∀ ys : List α, (∀ b ∈ ys, 0 ≤ f b) → 0 ≤ (ys.map f).sum := fun ys => by
        induction ys with
        | nil => intro _; exact Int.le_refl 0
        | cons y ys ih =>
          intro hy
          rw [List.map_cons, List.sum_cons]
          have := hy y List.mem_cons_self
          have := ih fun b hb => hy b (List.mem_cons_of_mem _ hb)
          omega
      exact this xs fun b hb => hf b (List.mem_cons_of_mem _ hb)
    rw [List.map_cons, List.sum_cons] at hb
    have c : (inLong (f a) && inLong (acc + f a)) = true := by
      unfold inLong
      simp only [Bool.and_eq_true, decide_eq_true_eq]
      omega
    simp only [List.map_cons, sumC, List.sum_cons]
    rw [if_pos c, sumC_eq f h xs (acc + f a) (by omega) (fun b hb => hf b (List.mem_cons_of_mem _ hb)) (by omega), Int.add_assoc]
theorem tupC_eq (f : α → D) (h : Hc) (xs : List α) (hl : xs.length < 16777216) : tupC (xs.map fun a => (f a, h)) h = .ok (.tup (xs.map f)) h := by
  show (if (xs.map fun a => (f a, h)).length < 16777216 then R.ok (D.tup ((xs.map fun a => (f a, h)).map (·.1))) h else .bad) = _
  rw [if_pos (by rw [List.length_map]; exact hl), List.map_map]
  rfl
/-- any, all, sum, tuple of what touches nothing -/
theorem any_eq {t : Tg} {em : EM} (enc : α → D) (p : α → Bool) (xs : List α) (hl : xs.length ≤ 16777216) (st : ∀ a ∈ xs, ∃ ρ1, bindD t (enc a) ρ = some ρ1 ∧ em ρ1 h = .ok (.bl (p a)) h) : R.gen t tYesM em anyC ρ (.ok (xs.map enc) h) = .ok (.bl (xs.any p)) h := by
  rw [R.gen_of (by rw [List.length_map]; exact hl) (genL_eq enc (fun a => .bl (p a)) xs st), anyC_eq]
theorem all_eq {t : Tg} {em : EM} (enc : α → D) (p : α → Bool) (xs : List α) (hl : xs.length ≤ 16777216) (st : ∀ a ∈ xs, ∃ ρ1, bindD t (enc a) ρ = some ρ1 ∧ em ρ1 h = .ok (.bl (p a)) h) : R.gen t tYesM em allC ρ (.ok (xs.map enc) h) = .ok (.bl (xs.all p)) h := by
  rw [R.gen_of (by rw [List.length_map]; exact hl) (genL_eq enc (fun a => .bl (p a)) xs st), allC_eq]
theorem sum_eq {t : Tg} {em : EM} (enc : α → D) (f : α → Int) (xs : List α) (hl : xs.length ≤ 16777216) (h0 : ∀ a ∈ xs, 0 ≤ f a) (hb : (xs.map f).sum < 2 ^ 63) (st : ∀ a ∈ xs, ∃ ρ1, bindD t (enc a) ρ = some ρ1 ∧ em ρ1 h = .ok (.int (f a)) h) : R.gen t tYesM em (sumC 0) ρ (.ok (xs.map enc) h) = .ok (.int (xs.map f).sum) h := by
  rw [R.gen_of (by rw [List.length_map]; exact hl) (genL_eq enc (fun a => .int (f a)) xs st), sumC_eq f h xs 0 (Int.le_refl 0) h0 (by omega), Int.zero_add]
theorem tup_eq {t : Tg} {em : EM} (enc val : α → D) (xs : List α) (hl : xs.length < 16777216) (st : ∀ a ∈ xs, ∃ ρ1, bindD t (enc a) ρ = some ρ1 ∧ em ρ1 h = .ok (val a) h) : R.gen t tYesM em tupC ρ (.ok (xs.map enc) h) = .ok (.tup (xs.map val)) h := by
  rw [R.gen_of (by rw [List.length_map]; omega) (genL_eq enc val xs st), tupC_eq val h xs hl]

/-! ### a range with a step -/
theorem rngC_eq (c : Int) : ∀ (n : Nat) (lo : Int), rngC c lo n = (List.range n).map fun k : Nat => D.int (lo + k * c) := by
  intro n
  induction n with
  | zero => intro lo; rfl
  | succ n ih =>
    intro lo
    show D.int lo :: rngC c (lo + c) n = _
    rw [ih, List.range_succ_eq_map, List.map_cons, List.map_map]
    congr 1
    · simp
    · apply List.map_congr_left
      intro k _
      simp only [Function.comp, Nat.succ_eq_add_one]
      congr 1
      push_cast
      rw [Int.add_mul]
      omega
/-- how many parts of m there are in n -/
def ups (n m : Nat) : Nat := (n + m - 1) / m
theorem rangeSize_up {n m : Nat} (hm : 0 < m) : (Builtin.Range.rangeSize 0 n m).toNat = ups n m ∧ 0 ≤ Builtin.Range.rangeSize 0 n m := by
  unfold Builtin.Range.rangeSize ups
  rw [if_pos (by omega)]
  by_cases h : 0 < n
  · rw [if_pos (by omega)]
    have e : ((n : Int) - 0 - 1) / (m : Int) + 1 = (((n - 1) / m + 1 : Nat) : Int) := by
      rw [show (n : Int) - 0 - 1 = ((n - 1 : Nat) : Int) by omega]
      rfl
    rw [e]
    refine ⟨?_, Int.natCast_nonneg _⟩
    rw [Int.toNat_natCast, show n + m - 1 = n - 1 + m by omega, Nat.add_div_right _ hm]
  · rw [if_neg (by omega)]
    obtain rfl : n = 0 := by omega
    refine ⟨?_, Int.le_refl 0⟩
    rw [Nat.zero_add, Nat.div_eq_of_lt (by omega)]
    rfl
theorem kR3_up {n m : Nat} (hm : 0 < m) (hm2 : m < 1073741824) (hn : n < 1073741824) : kR3 [.int 0, .int n, .int m] h = .ok ((List.range (ups n m)).map fun k : Nat => D.int ((k : Int) * (m : Int))) h := by
  obtain ⟨e1, e2⟩ := rangeSize_up (n := n) (m := m) hm
  have sm : Builtin.Range.small 0 n m = true := by
    have u : ups n m ≤ n := by
      unfold ups
      have h1 : (n + m - 1) / m < n + 1 := by
        rw [Nat.div_lt_iff_lt_mul hm, Nat.add_mul, Nat.one_mul]
        have h2 : n ≤ n * m := Nat.le_mul_of_pos_right _ hm
        omega
      omega
    have fl : ∀ z : Int, -(2 ^ 62) ≤ z → z < 2 ^ 62 → Builtin.Range.rangeFitsLong z = true := fun z h1 h2 => by
      unfold Builtin.Range.rangeFitsLong
      simp
      omega
    unfold Builtin.Range.small
    simp only [Bool.and_eq_true, Bool.or_eq_true]
    refine ⟨⟨⟨⟨fl _ (by omega) (by omega), fl _ (by omega) (by omega)⟩, fl _ (by omega) (by omega)⟩, fl _ (by omega) (by omega)⟩, .inr ?_⟩
    split
    · exact fl _ (by omega) (by omega)
    · exact fl _ (by omega) (by omega)
  show (if (m : Int) ≠ 0 ∧ (m : Int).natAbs < 1073741824 ∧ Builtin.Range.small 0 n m = true ∧ 0 ≤ Builtin.Range.rangeSize 0 n m then R.ok (rngC m 0 (Builtin.Range.rangeSize 0 n m).toNat) h else .bad) = _
  rw [if_pos ⟨by omega, by omega, sm, e2⟩, e1, rngC_eq]
  refine congrArg (fun z => R.ok z h) ?_
  apply List.map_congr_left
  intro k _
  rw [Int.zero_add]
theorem cutL_part {l : List α} {k m : Nat} : cutL l (some ((k : Int) * (m : Int))) (some ((k : Int) * (m : Int) + (m : Int))) = (l.drop (k * m)).take m := by
  have e : (k : Int) * (m : Int) = ((k * m : Nat) : Int) := rfl
  rw [e, cutL_lohi (Int.natCast_nonneg _) (by omega), List.drop_take]
  congr 1
  · omega
/-- a list in parts of m -/
def chunk (m : Nat) (l : List α) : List (List α) := (List.range (ups l.length m)).map fun k => (l.drop (k * m)).take m
theorem ups_lt {n m k : Nat} (hm : 0 < m) : k < ups n m ↔ k * m < n := by
  unfold ups
  rw [Nat.lt_div_iff_mul_lt hm]
  omega
theorem ups_mul {n m : Nat} (hm : 0 < m) : n ≤ ups n m * m := by
  have := (ups_lt (n := n) (k := ups n m) hm)
  omega
theorem chunk_flat (m : Nat) (l : List α) (hm : 0 < m) : (chunk m l).flatten = l := by
  have main : ∀ n, ((List.range n).map fun k => (l.drop (k * m)).take m).flatten = l.take (n * m) := by
    intro n
    induction n with
    | zero => simp
    | succ n ih => rw [List.range_succ, List.map_append, List.flatten_append, ih, Nat.succ_mul, List.take_add]; simp
  unfold chunk
  rw [main, List.take_of_length_le (ups_mul hm)]
theorem chunk_ne {m : Nat} {l : List α} (hm : 0 < m) {p : List α} (hp : p ∈ chunk m l) : p ≠ [] ∧ p.length ≤ m := by
  obtain ⟨k, hk, rfl⟩ := List.mem_map.mp hp
  have := (ups_lt hm).mp (List.mem_range.mp hk)
  refine ⟨fun z => ?_, by rw [List.length_take]; omega⟩
  have := congrArg List.length z
  rw [List.length_take, List.length_drop, List.length_nil] at this
  omega
theorem chunk_len (m : Nat) (l : List α) (hm : 0 < m) : (chunk m l).length ≤ l.length := by
  unfold chunk
  rw [List.length_map, List.length_range]
  have := ups_lt (n := l.length) (k := l.length) hm
  have h2 : l.length ≤ l.length * m := Nat.le_mul_of_pos_right _ hm
  omega
/-! ### a while -/
def wh (c : β → Bool) (f : β → β) : Nat → β → β
  | 0, s => s
  | n + 1, s => if c s = true then wh c f n (f s) else s
/-- turns counted by a number that falls; f tells a turn -/
theorem while_eq {t : TM} {b : SM} (rho : β → Rho) (c : β → Bool) (f : β → β) (ok : β → Prop) (μ : β → Nat) (h : Hc)
    (st : ∀ s, ok s → t (rho s) h = .ok (c s) h ∧ (c s = true → (b (rho s) h = .nx (rho (f s)) h ∨ b (rho s) h = .ct (rho (f s)) h) ∧ ok (f s) ∧ μ (f s) < μ s)) : ∀ (n m : Nat) (s : β), μ s < n → μ s ≤ m → ok s →
    whileM t b n (rho s) h = .nx (rho (wh c f m s)) h ∧ ok (wh c f m s) ∧ c (wh c f m s) = false
  | 0, m, s, hm, _, _ => absurd hm (Nat.not_lt_zero _)
  | n + 1, m, s, hm, hm2, o => by
    obtain ⟨e1, e2⟩ := st s o
    cases q : c s with
    | false =>
      have e : wh c f m s = s := by
        cases m with
        | zero => rfl
        | succ m => show (if c s = true then _ else s) = s; rw [q]; rfl
      rw [e]
      refine ⟨?_, o, q⟩
      show (t (rho s) h).toS (rho s) _ = _
      rw [e1, q]
      rfl
    | true =>
      obtain ⟨e3, o3, m3⟩ := e2 q
      obtain ⟨m, rfl⟩ : ∃ k, m = k + 1 := ⟨m - 1, by omega⟩
      have e : wh c f (m + 1) s = wh c f m (f s) := by
        show (if c s = true then wh c f m (f s) else s) = _
        rw [q]; rfl
      obtain ⟨e4, o4, c4⟩ := while_eq rho c f ok μ h st n m (f s) (by omega) (by omega) o3
      rw [e]
      refine ⟨?_, o4, c4⟩
      show (t (rho s) h).toS (rho s) _ = _
      rw [e1, q, ← e4]
      rcases e3 with e3 | e3
      · simp only [R.toS_ok, if_true, e3]; rfl
      · simp only [R.toS_ok, if_true, e3]; rfl
end
end Z

namespace Z
open PySem PySem.Spec L2
/-! k13, plain: rows of bits parted without carrying -/
def Bits (l : List Nat) : Prop := ∀ c ∈ l, c = 48 ∨ c = 49
def xo (a b : Nat) : Nat := if a = b then 48 else 49
def xorF (a b : List Nat) : List Nat := List.zipWith xo a b
theorem xo_bit (a b : Nat) : xo a b = 48 ∨ xo a b = 49 := by unfold xo; split <;> simp
theorem xorF_bits : ∀ (a b : List Nat), Bits (xorF a b)
  | [], _ => fun c h => by simp [xorF] at h
  | _ :: _, [] => fun c h => by simp [xorF] at h
  | a :: as, b :: bs => fun c h => by
    rcases List.mem_cons.mp (show c ∈ xo a b :: xorF as bs from h) with rfl | h
    · exact xo_bit a b
    · exact xorF_bits as bs c h
theorem xorF_len (a b : List Nat) : (xorF a b).length = min a.length b.length := by simp [xorF]
theorem xorF_app {a b c d : List Nat} (h : a.length = c.length) : xorF (a ++ b) (c ++ d) = xorF a c ++ xorF b d := by
  unfold xorF
  exact List.zipWith_append h
theorem Bits.app {a b : List Nat} (ha : Bits a) (hb : Bits b) : Bits (a ++ b) := fun c h => (List.mem_append.mp h).elim (ha c) (hb c)
theorem Bits.sub {a b : List Nat} (ha : Bits a) (h : ∀ c ∈ b, c ∈ a) : Bits b := fun c hc => ha c (h c hc)
theorem Bits.take {a : List Nat} (ha : Bits a) (n : Nat) : Bits (a.take n) := ha.sub fun c h => List.mem_of_mem_take h
theorem Bits.drop {a : List Nat} (ha : Bits a) (n : Nat) : Bits (a.drop n) := ha.sub fun c h => List.mem_of_mem_drop h
theorem Bits.tail {a : List Nat} (ha : Bits a) : Bits a.tail := ha.sub fun c h => List.mem_of_mem_tail h
theorem bits_zero (n : Nat) : Bits (List.replicate n 48) := fun c h => .inl (List.eq_of_mem_replicate h)
/-- one step of parting: the first bit goes, by's rest g is put to those behind it -/
def pstp (g l : List Nat) : List Nat := match l with
  | [] => []
  | h :: t => if h = 49 then xorF (t.take g.length) g ++ t.drop g.length else t
def iterP (g : List Nat) : Nat → List Nat → List Nat
  | 0, l => l
  | k + 1, l => iterP g k (pstp g l)
/-- the rest of l by 1 ahead of g -/
def restP (g l : List Nat) : List Nat := iterP g (l.length - g.length) l
/-- the law's way: a held row and a bit more -/
def lstp (g R : List Nat) (b : Nat) : List Nat := if R.head? = some 49 then xorF (R.tail ++ [b]) g else R.tail ++ [b]
def lawR (g X : List Nat) : List Nat := X.foldl (lstp g) (List.replicate g.length 48)
theorem lstp_len {g R : List Nat} {b : Nat} (h : R.length = g.length) (hg : 0 < g.length) : (lstp g R b).length = g.length := by
  have e : (R.tail ++ [b]).length = g.length := by rw [List.length_append, List.length_tail]; simp; omega
  unfold lstp
  split
  · rw [xorF_len, e, Nat.min_self]
  · exact e
theorem pstp_app {g R X : List Nat} {x : Nat} (h : R.length = g.length) (hg : 0 < g.length) : pstp g (R ++ x :: X) = lstp g R x ++ X := by
  cases R with
  | nil => simp at h; omega
  | cons r R =>
    have hl : (R ++ [x]).length = g.length := by rw [List.length_append]; simpa using h
    have e : R ++ x :: X = (R ++ [x]) ++ X := by simp
    show (if r = 49 then xorF ((R ++ x :: X).take g.length) g ++ (R ++ x :: X).drop g.length else R ++ x :: X) = _
    unfold lstp
    by_cases q : r = 49
    · rw [if_pos q, if_pos (by simp [q]), e, ← hl, List.take_left, List.drop_left]
      rfl
    · rw [if_neg q, if_neg (by simp [q]), e]
      rfl
theorem iter_law {g : List Nat} (hg : 0 < g.length) : ∀ (X R : List Nat), R.length = g.length → iterP g X.length (R ++ X) = X.foldl (lstp g) R
  | [], R, _ => by rw [List.append_nil]; rfl
  | x :: X, R, h => by
    show iterP g X.length (pstp g (R ++ x :: X)) = _
    rw [pstp_app h hg, iter_law hg X _ (lstp_len h hg)]
    rfl
theorem iter_zeros (g l : List Nat) (m : Nat) : ∀ n, iterP g (n + m) (List.replicate n 48 ++ l) = iterP g m l
  | 0 => by rw [Nat.zero_add]; rfl
  | n + 1 => by
    rw [show n + 1 + m = (n + m) + 1 by omega]
    show iterP g (n + m) (pstp g (List.replicate (n + 1) 48 ++ l)) = _
    have e : pstp g (List.replicate (n + 1) 48 ++ l) = List.replicate n 48 ++ l := by
      rw [List.replicate_succ, List.cons_append]
      simp [pstp]
    rw [e, iter_zeros g l m n]
/-- both ways come to the same -/
theorem lawR_rest {g X : List Nat} (hg : 0 < g.length) (h : g.length ≤ X.length) : lawR g X = restP g X := by
  unfold lawR restP
  rw [← iter_law hg X _ (by simp)]
  have := iter_zeros g X (X.length - g.length) g.length
  rw [show g.length + (X.length - g.length) = X.length by omega] at this
  exact this
theorem lawR_short {g X : List Nat} (hg : 0 < g.length) (h : X.length ≤ g.length) : lawR g X = List.replicate (g.length - X.length) 48 ++ X := by
  unfold lawR
  rw [← iter_law hg X _ (by simp)]
  have := iter_zeros g (List.replicate (g.length - X.length) 48 ++ X) 0 X.length
  rw [← List.append_assoc, List.replicate_append_replicate, show X.length + (g.length - X.length) = g.length by omega, Nat.add_zero] at this
  exact this
theorem lawR_len {g : List Nat} (hg : 0 < g.length) (X : List Nat) : (lawR g X).length = g.length := by
  have : ∀ (X R : List Nat), R.length = g.length → (X.foldl (lstp g) R).length = g.length := by
    intro X
    induction X with
    | nil => exact fun R h => h
    | cons x X ih => exact fun R h => ih _ (lstp_len h hg)
  exact this X _ (by simp)
theorem lstp_bits {g R : List Nat} {b : Nat} (hR : Bits R) (hb : b = 48 ∨ b = 49) : Bits (lstp g R b) := by
  unfold lstp
  split
  · exact xorF_bits _ _
  · exact hR.tail.app fun c h => by rw [List.mem_singleton.mp h]; exact hb
theorem lawR_bits {g X : List Nat} (hX : Bits X) : Bits (lawR g X) := by
  have : ∀ (X R : List Nat), Bits X → Bits R → Bits (X.foldl (lstp g) R) := by
    intro X
    induction X with
    | nil => exact fun R _ h => h
    | cons x X ih => exact fun R hx h => ih _ (fun c hc => hx c (List.mem_cons_of_mem _ hc)) (lstp_bits h (hx x List.mem_cons_self))
  exact this X _ hX (bits_zero _)
theorem xo_xo (a b c d : Nat) (ha : a = 48 ∨ a = 49) (hb : b = 48 ∨ b = 49) (hc : c = 48 ∨ c = 49) (hd : d = 48 ∨ d = 49) : xo (xo a b) (xo c d) = xo (xo a c) (xo b d) := by
  rcases ha with rfl | rfl <;> rcases hb with rfl | rfl <;> rcases hc with rfl | rfl <;> rcases hd with rfl | rfl <;> rfl
theorem xorF_mid : ∀ (a b c d : List Nat), a.length = b.length → c.length = d.length → Bits a → Bits b → Bits c → Bits d → xorF (xorF a b) (xorF c d) = xorF (xorF a c) (xorF b d)
  | [], [], _, _, _, _, _, _, _, _ => by simp [xorF]
  | [], _ :: _, _, _, h, _, _, _, _, _ => by simp at h
  | _ :: _, [], _, _, h, _, _, _, _, _ => by simp at h
  | _ :: _, _ :: _, [], [], _, _, _, _, _, _ => by simp [xorF]
  | _ :: _, _ :: _, [], _ :: _, _, h, _, _, _, _ => by simp at h
  | _ :: _, _ :: _, _ :: _, [], _, h, _, _, _, _ => by simp at h
  | a :: as, b :: bs, c :: cs, d :: ds, h1, h2, ha, hb, hc, hd => by
    have ih := xorF_mid as bs cs ds (by simpa using h1) (by simpa using h2) (fun x h => ha x (List.mem_cons_of_mem _ h)) (fun x h => hb x (List.mem_cons_of_mem _ h)) (fun x h => hc x (List.mem_cons_of_mem _ h)) (fun x h => hd x (List.mem_cons_of_mem _ h))
    show xo (xo a b) (xo c d) :: xorF (xorF as bs) (xorF cs ds) = xo (xo a c) (xo b d) :: xorF (xorF as cs) (xorF bs ds)
    rw [ih, xo_xo a b c d (ha a List.mem_cons_self) (hb b List.mem_cons_self) (hc c List.mem_cons_self) (hd d List.mem_cons_self)]
theorem xorF_self_zero : ∀ (a b : List Nat), a.length = b.length → xorF (xorF a b) b = xorF (xorF a b) b := fun _ _ _ => rfl
theorem xorF_zero : ∀ (a : List Nat) (n : Nat), Bits a → a.length ≤ n → xorF a (List.replicate n 48) = a
  | [], n, _, _ => by simp [xorF]
  | a :: as, 0, _, h => by simp at h
  | a :: as, n + 1, ha, h => by
    have ih := xorF_zero as n (fun x hx => ha x (List.mem_cons_of_mem _ hx)) (by simpa using h)
    show xo a 48 :: xorF as (List.replicate n 48) = _
    rw [ih]
    congr 1
    rcases ha a List.mem_cons_self with rfl | rfl <;> rfl
theorem xorF_self : ∀ (a : List Nat), xorF a a = List.replicate a.length 48
  | [] => rfl
  | a :: as => by
    have ih := xorF_self as
    show xo a a :: xorF as as = _
    rw [ih]
    simp [xo, List.replicate_succ]
theorem zero_xorF (a : List Nat) (n : Nat) (h : Bits a) (hn : a.length ≤ n) : xorF (List.replicate n 48) a = a := by
  have : ∀ (a : List Nat) (n : Nat), Bits a → a.length ≤ n → xorF (List.replicate n 48) a = a := by
    intro a
    induction a with
    | nil => intro n _ _; simp [xorF]
    | cons a as ih =>
      intro n ha h
      obtain ⟨m, rfl⟩ : ∃ m, n = m + 1 := ⟨n - 1, by simp at h; omega⟩
      rw [List.replicate_succ]
      show xo 48 a :: xorF (List.replicate m 48) as = _
      rw [ih m (fun x hx => ha x (List.mem_cons_of_mem _ hx)) (by simpa using h)]
      congr 1
      rcases ha a List.mem_cons_self with rfl | rfl <;> rfl
  exact this a n h hn
/-- parting is linear -/
theorem lstp_xor {g R S : List Nat} {b c : Nat} (hg : 0 < g.length) (hgb : Bits g) (hR : R.length = g.length) (hS : S.length = g.length) (bR : Bits R) (bS : Bits S) (hb : b = 48 ∨ b = 49) (hc : c = 48 ∨ c = 49) : lstp g (xorF R S) (xo b c) = xorF (lstp g R b) (lstp g S c) := by
  cases R with
  | nil => simp at hR; omega
  | cons r R =>
    cases S with
    | nil => simp at hS; omega
    | cons s S =>
      have e0 : xorF (r :: R) (s :: S) = xo r s :: xorF R S := rfl
      have l1 : (R ++ [b]).length = g.length := by rw [List.length_append]; simpa using hR
      have l2 : (S ++ [c]).length = g.length := by rw [List.length_append]; simpa using hS
      have lr : R.length = S.length := by simp at hR hS; omega
      have bb : Bits [b] := fun x h => by rw [List.mem_singleton.mp h]; exact hb
      have bc : Bits [c] := fun x h => by rw [List.mem_singleton.mp h]; exact hc
      have b1 : Bits (R ++ [b]) := Bits.app (fun x h => bR x (List.mem_cons_of_mem _ h)) bb
      have b2 : Bits (S ++ [c]) := Bits.app (fun x h => bS x (List.mem_cons_of_mem _ h)) bc
      have e1 : xorF R S ++ [xo b c] = xorF (R ++ [b]) (S ++ [c]) := (xorF_app (a := R) (b := [b]) (c := S) (d := [c]) lr).symm
      have z := xorF_zero (xorF (R ++ [b]) (S ++ [c])) g.length (xorF_bits _ _) (by rw [xorF_len]; omega)
      rw [e0]
      unfold lstp
      simp only [List.head?_cons, List.tail_cons, Option.some.injEq]
      rw [e1]
      rcases bR r List.mem_cons_self with rfl | rfl <;> rcases bS s List.mem_cons_self with rfl | rfl
      · simp [xo]
      · simp only [show xo 48 49 = 49 from rfl, if_true, show ¬ ((48 : Nat) = 49) by decide, if_false]
        have m := xorF_mid (R ++ [b]) (S ++ [c]) (List.replicate g.length 48) g (by rw [l1, l2]) (by simp) b1 b2 (bits_zero _) hgb
        rw [zero_xorF g _ hgb (Nat.le_refl _), xorF_zero _ _ b1 (by omega)] at m
        exact m
      · simp only [show xo 49 48 = 49 from rfl, if_true, show ¬ ((48 : Nat) = 49) by decide, if_false]
        have m := xorF_mid (R ++ [b]) (S ++ [c]) g (List.replicate g.length 48) (by rw [l1, l2]) (by simp) b1 b2 hgb (bits_zero _)
        rw [xorF_zero g _ hgb (Nat.le_refl _), xorF_zero _ _ b2 (by omega)] at m
        exact m
      · simp only [show xo 49 49 = 48 from rfl, if_true, show ¬ ((48 : Nat) = 49) by decide, if_false]
        have m := xorF_mid (R ++ [b]) (S ++ [c]) g g (by rw [l1, l2]) rfl b1 b2 hgb hgb
        rw [xorF_self, z] at m
        exact m
theorem lawR_xor {g : List Nat} (hg : 0 < g.length) (hgb : Bits g) (X Y : List Nat) (h : X.length = Y.length) (bX : Bits X) (bY : Bits Y) : lawR g (xorF X Y) = xorF (lawR g X) (lawR g Y) := by
  have main : ∀ (X Y R S : List Nat), X.length = Y.length → Bits X → Bits Y → R.length = g.length → S.length = g.length → Bits R → Bits S → (xorF X Y).foldl (lstp g) (xorF R S) = xorF (X.foldl (lstp g) R) (Y.foldl (lstp g) S) := by
    intro X
    induction X with
    | nil =>
      intro Y R S h _ _ _ _ _ _
      cases Y with
      | nil => rfl
      | cons _ _ => simp at h
    | cons x X ih =>
      intro Y R S h bX bY hR hS bR bS
      cases Y with
      | nil => simp at h
      | cons y Y =>
        have hx := bX x List.mem_cons_self
        have hy := bY y List.mem_cons_self
        show (xorF X Y).foldl (lstp g) (lstp g (xorF R S) (xo x y)) = _
        rw [lstp_xor hg hgb hR hS bR bS hx hy]
        exact ih Y _ _ (by simpa using h) (fun c hc => bX c (List.mem_cons_of_mem _ hc)) (fun c hc => bY c (List.mem_cons_of_mem _ hc)) (lstp_len hR hg) (lstp_len hS hg) (lstp_bits bR hx) (lstp_bits bS hy)
  have := main X Y (List.replicate g.length 48) (List.replicate g.length 48) h bX bY (by simp) (by simp) (bits_zero _) (bits_zero _)
  rw [xorF_self, List.length_replicate] at this
  exact this
end Z

namespace Z
open PySem PySem.Spec L2
/-! k13, plain: sums of numbers -/
abbrev Eights (xs : List Int) : Prop := ∀ x ∈ xs, 0 ≤ x ∧ x < 256
theorem check8_ok (xs : List Int) (h : Hc) (hl : xs.length ≤ 400) (hx : Eights xs) : m_check_eights [.lst (xs.map D.int)] h = .ok .non h := by
  rw [m_check_eights_ap]
  have c : (xs.any fun x => !(decide (0 ≤ x) && decide (x < 256))) = false := by
    rw [List.any_eq_false]
    intro x hm
    have := hx x hm
    simp [this]
  have c0 : ¬ 400 < (xs.length : Int) := by omega
  simp (disch := first | assumption | omega | (simp only [List.length_map, List.length_append, List.length_cons, List.length_nil, List.length_take, List.length_drop, List.length_replicate, List.length_range, repL_length, List.length_reverse, List.length_set, rgI_len, Int.toNat_natCast]; omega) | (simp; done) | fail) [-getElem?_pos, b_check_eights, c0]
  rw [any_eq D.int (fun x => !(decide (0 ≤ x) && decide (x < 256))) xs (by omega) fun x _ => ⟨_, rfl, by
    by_cases q : 0 ≤ x
    · simp [q]
    · simp [q]⟩, c]
  simp
theorem plain_ok (xs : List Int) (m : Int) (h : Hc) (hl : xs.length ≤ 400) (hx : Eights xs) (hm : 1 ≤ m) : m_plain_sum [.lst (xs.map D.int), .int m] h = .ok (.int (xs.sum.fmod m)) h := by
  rw [m_plain_sum_ap]
  have c0 : ¬ m < 1 := by omega
  have c1 : m ≠ 0 := by omega
  simp (disch := first | assumption | omega | (simp only [List.length_map, List.length_append, List.length_cons, List.length_nil, List.length_take, List.length_drop, List.length_replicate, List.length_range, repL_length, List.length_reverse, List.length_set, rgI_len, Int.toNat_natCast]; omega) | (simp; done) | fail) [-getElem?_pos, b_plain_sum, check8_ok xs h hl hx, c0, c1]
def tst (m : Int) (s : Int × Int) (n : Int) : Int × Int := ((s.1 + n).fmod m, (s.2 + (s.1 + n).fmod m).fmod m)
def twoF (m : Int) (xs : List Int) : Int × Int := xs.foldl (tst m) ((1 : Int).fmod m, 0)
def pairD (p : Int × Int) : D := .tup [.int p.1, .int p.2]
theorem two_ok (xs : List Int) (m : Int) (h : Hc) (hl : xs.length ≤ 400) (hx : Eights xs) (hm : 1 ≤ m) : m_two_sums [.lst (xs.map D.int), .int m] h = .ok (pairD (twoF m xs)) h := by
  rw [m_two_sums_ap]
  have c0 : ¬ m < 1 := by omega
  have c1 : m ≠ 0 := by omega
  simp (disch := first | assumption | omega | (simp only [List.length_map, List.length_append, List.length_cons, List.length_nil, List.length_take, List.length_drop, List.length_replicate, List.length_range, repL_length, List.length_reverse, List.length_set, rgI_len, Int.toNat_natCast]; omega) | (simp; done) | fail) [-getElem?_pos, b_two_sums, check8_ok xs h hl hx, c0, c1]
  refine for_eq D.int (fun s : Int × Int => [.v (.lst (xs.map D.int)), .v (.int m), .v (.int s.1), .v (.int s.2), .u]) (tst m) (fun _ _ => True) xs ((1 : Int).fmod m, 0) trivial (fun j n s e o => ?_) (fun o => ?_)
  · exact ⟨_, rfl, .inl (by simp [b_two_sums_0, sKl, O.kill, c1, tst]), trivial⟩
  · simp [pairD, twoF]
theorem ltwo_ok (xs : List Int) (m : Int) (h : Hc) (hm : 1 ≤ m) : m__law_two [.lst (xs.map D.int), .int m] h = .ok (pairD (twoF m xs)) h := by
  rw [m__law_two_ap]
  have c1 : m ≠ 0 := by omega
  simp (disch := first | assumption | omega | (simp only [List.length_map, List.length_append, List.length_cons, List.length_nil, List.length_take, List.length_drop, List.length_replicate, List.length_range, repL_length, List.length_reverse, List.length_set, rgI_len, Int.toNat_natCast]; omega) | (simp; done) | fail) [-getElem?_pos, b__law_two, c1]
  refine for_eq D.int (fun s : Int × Int => [.v (.lst (xs.map D.int)), .v (.int m), .v (.int s.1), .v (.int s.2), .u]) (tst m) (fun _ _ => True) xs ((1 : Int).fmod m, 0) trivial (fun j n s e o => ?_) (fun o => ?_)
  · exact ⟨_, rfl, .inl (by simp [b__law_two_0, sKl, O.kill, c1, tst]), trivial⟩
  · simp [pairD, twoF]
/-- the same sums, nothing left out -/
def exS (s : Int × Int) (n : Int) : Int × Int := (s.1 + n, s.2 + s.1 + n)
def exF (xs : List Int) (s : Int × Int) : Int × Int := xs.foldl exS s
theorem mod_of {x y m k : Int} (h : x = y + m * k) : x % m = y % m := by rw [h, Int.add_mul_emod_self_left]
theorem emod_is (x m : Int) : ∃ k, x % m = x + m * k := ⟨-(x / m), by
  have := Int.emod_def x m
  rw [this, Int.mul_neg]
  omega⟩
theorem tst_ex {m : Int} (hm : 1 ≤ m) : ∀ (xs : List Int) (a b : Int), xs.foldl (tst m) (a % m, b % m) = ((exF xs (a, b)).1 % m, (exF xs (a, b)).2 % m)
  | [], _, _ => rfl
  | n :: xs, a, b => by
    have ih := tst_ex hm xs (a + n) (b + a + n)
    have e1 : (a % m + n).fmod m = (a + n) % m := by
      rw [Int.fmod_eq_emod_of_nonneg _ (by omega)]
      obtain ⟨k, e⟩ := emod_is a m
      exact mod_of (k := k) (by rw [e]; omega)
    have e2 : (b % m + (a + n) % m).fmod m = (b + a + n) % m := by
      rw [Int.fmod_eq_emod_of_nonneg _ (by omega)]
      obtain ⟨k, e⟩ := emod_is b m
      obtain ⟨k2, e2⟩ := emod_is (a + n) m
      exact mod_of (k := k + k2) (by rw [e, e2, Int.mul_add]; omega)
    have st : tst m (a % m, b % m) n = ((a + n) % m, (b + a + n) % m) := by
      unfold tst
      simp only
      rw [e1, e2]
    rw [List.foldl_cons, st, ih]
    rfl
theorem twoF_ex {m : Int} (hm : 1 ≤ m) (xs : List Int) : twoF m xs = ((exF xs (1, 0)).1 % m, (exF xs (1, 0)).2 % m) := by
  have := tst_ex hm xs 1 0
  rw [← this]
  unfold twoF
  rw [Int.fmod_eq_emod_of_nonneg _ (by omega), Int.zero_emod]
theorem exF_app (xs ys : List Int) (s : Int × Int) : exF (xs ++ ys) s = exF ys (exF xs s) := List.foldl_append
theorem exF_add : ∀ (ys : List Int) (a b g d : Int), exF ys (a + g, b + d) = ((exF ys (a, b)).1 + g, (exF ys (a, b)).2 + d + ys.length * g)
  | [], a, b, g, d => by simp [exF]
  | n :: ys, a, b, g, d => by
    have ih := exF_add ys (a + n) (b + a + n) g (d + g)
    have e : exS (a + g, b + d) n = (a + n + g, b + a + n + (d + g)) := by
      unfold exS
      simp only [Prod.mk.injEq]
      omega
    show exF ys (exS (a + g, b + d) n) = _
    rw [e, ih]
    show _ = ((exF ys (exS (a, b) n)).1 + g, (exF ys (exS (a, b) n)).2 + d + ((ys.length + 1 : Nat) : Int) * g)
    unfold exS
    simp only [Prod.mk.injEq, true_and]
    push_cast
    rw [Int.add_mul]
    omega
theorem joined_eq {m : Int} (hm : 1 ≤ m) (xs ys : List Int) : twoF m (xs ++ ys) = (((twoF m xs).1 + (twoF m ys).1 - 1).fmod m, ((twoF m xs).2 + (twoF m ys).2 + ys.length * ((twoF m xs).1 - 1)).fmod m) := by
  rw [twoF_ex hm, twoF_ex hm, twoF_ex hm, exF_app]
  generalize hA : exF xs (1, 0) = A
  obtain ⟨a1, b1⟩ := A
  have e := exF_add ys 1 0 (a1 - 1) b1
  rw [show (1 : Int) + (a1 - 1) = a1 by omega, Int.zero_add] at e
  rw [e]
  generalize exF ys (1, 0) = B
  obtain ⟨a2, b2⟩ := B
  rw [Int.fmod_eq_emod_of_nonneg _ (by omega), Int.fmod_eq_emod_of_nonneg _ (by omega)]
  obtain ⟨k1, h1⟩ := emod_is a1 m
  obtain ⟨k2, h2⟩ := emod_is a2 m
  obtain ⟨k3, h3⟩ := emod_is b1 m
  obtain ⟨k4, h4⟩ := emod_is b2 m
  simp only [Prod.mk.injEq]
  constructor
  · exact (mod_of (k := k1 + k2) (by rw [h1, h2, Int.mul_add]; omega)).symm
  · refine (mod_of (k := k3 + k4 + ys.length * k1) ?_).symm
    rw [h1, h3, h4]
    grind
theorem changed_eq {m : Int} (hm : 1 ≤ m) (xs : List Int) (p : Nat) (old new : Int) (hp : xs[p]? = some old) :
    twoF m (xs.take p ++ [new] ++ xs.drop (p + 1)) = (((twoF m xs).1 + (new - old)).fmod m, ((twoF m xs).2 + ((xs.length : Int) - p) * (new - old)).fmod m) := by
  have hl := (List.getElem?_eq_some_iff.mp hp).1
  have ex : xs = xs.take p ++ [old] ++ xs.drop (p + 1) := by
    rw [List.append_assoc]
    have : [old] ++ xs.drop (p + 1) = xs.drop p := by
      rw [List.drop_eq_getElem_cons hl, (List.getElem?_eq_some_iff.mp hp).2]
      rfl
    rw [this, List.take_append_drop]
  have ln : (xs.length : Int) - p = (xs.drop (p + 1)).length + 1 := by rw [List.length_drop]; omega
  rw [ln]
  rw [twoF_ex hm, twoF_ex hm]
  have e0 : exF xs (1, 0) = exF (xs.drop (p + 1)) (exF [old] (exF (xs.take p) (1, 0))) := by
    conv => lhs; rw [ex]
    rw [exF_app, exF_app]
  rw [e0, exF_app, exF_app]
  generalize exF (xs.take p) (1, 0) = A
  obtain ⟨a, b⟩ := A
  generalize xs.drop (p + 1) = ys
  have e := exF_add ys (a + old) (b + a + old) (new - old) (new - old)
  have e1 : exF [new] (a, b) = (a + old + (new - old), b + a + old + (new - old)) := by
    show exS (a, b) new = _
    unfold exS
    simp only [Prod.mk.injEq]
    omega
  have e2 : exF [old] (a, b) = (a + old, b + a + old) := rfl
  rw [e1, e, e2]
  generalize exF ys (a + old, b + a + old) = B
  obtain ⟨a2, b2⟩ := B
  rw [Int.fmod_eq_emod_of_nonneg _ (by omega), Int.fmod_eq_emod_of_nonneg _ (by omega)]
  obtain ⟨k1, h1⟩ := emod_is a2 m
  obtain ⟨k2, h2⟩ := emod_is b2 m
  simp only [Prod.mk.injEq]
  constructor
  · exact (mod_of (k := k1) (by rw [h1]; omega)).symm
  · refine (mod_of (k := k2) ?_).symm
    rw [h2]
    grind
theorem joined_ok (p q : Int × Int) (n m : Int) (h : Hc) (hm : 1 ≤ m) (hn : 0 ≤ n ∧ n ≤ 1000) : m_joined_sums [pairD p, pairD q, .int n, .int m] h = .ok (pairD ((p.1 + q.1 - 1).fmod m, (p.2 + q.2 + n * (p.1 - 1)).fmod m)) h := by
  rw [m_joined_sums_ap]
  have c0 : ¬ m < 1 := by omega
  have c1 : m ≠ 0 := by omega
  have c2 : ¬ n < 0 := by omega
  have c3 : (-(2 ^ 64) < n ∧ n < 2 ^ 64) ∨ (-(2 ^ 64) < p.1 - 1 ∧ p.1 - 1 < 2 ^ 64) := .inl (by omega)
  simp (disch := first | assumption | omega | (simp only [List.length_map, List.length_append, List.length_cons, List.length_nil, List.length_take, List.length_drop, List.length_replicate, List.length_range, repL_length, List.length_reverse, List.length_set, rgI_len, Int.toNat_natCast]; omega) | (simp; done) | fail) [-getElem?_pos, b_joined_sums, c0, c1, c2, pairD, opMul_int c3]
theorem changed_ok (p : Int × Int) (n place old new m : Int) (h : Hc) (hm : 1 ≤ m) (hn : 0 ≤ n ∧ n ≤ 1000) (hp : 0 ≤ place) : m_changed_sums [pairD p, .int n, .int place, .int old, .int new, .int m] h =
    if place < n then .ok (pairD ((p.1 + (new - old)).fmod m, (p.2 + (n - place) * (new - old)).fmod m)) h else .ex 2 h := by
  rw [m_changed_sums_ap]
  have c0 : ¬ m < 1 := by omega
  have c1 : m ≠ 0 := by omega
  by_cases q : place < n
  · have c3 : (-(2 ^ 64) < n - place ∧ n - place < 2 ^ 64) ∨ (-(2 ^ 64) < new - old ∧ new - old < 2 ^ 64) := .inl (by omega)
    simp (disch := first | assumption | omega | (simp only [List.length_map, List.length_append, List.length_cons, List.length_nil, List.length_take, List.length_drop, List.length_replicate, List.length_range, repL_length, List.length_reverse, List.length_set, rgI_len, Int.toNat_natCast]; omega) | (simp; done) | fail) [-getElem?_pos, b_changed_sums, c0, c1, hp, q, pairD, opMul_int c3]
  · simp (disch := first | assumption | omega | (simp only [List.length_map, List.length_append, List.length_cons, List.length_nil, List.length_take, List.length_drop, List.length_replicate, List.length_range, repL_length, List.length_reverse, List.length_set, rgI_len, Int.toNat_natCast]; omega) | (simp; done) | fail) [-getElem?_pos, b_changed_sums, hp, q]
end Z

namespace Z
open PySem PySem.Spec L2
/-! k13, plain: rows of bits, walked -/
theorem bits_any {l : List Nat} (hb : Bits l) : (l.any fun c => !decide (c ∈ [48, 49])) = false := by
  rw [List.any_eq_false]
  intro c hc
  rcases hb c hc with rfl | rfl <;> decide
theorem cbits_ok (l : List Nat) (h : Hc) (hl : l.length ≤ 4000) (hb : Bits l) : m_check_bits [.str l] h = .ok .non h := by
  rw [m_check_bits_ap]
  have c0 : ¬ 4000 < (l.length : Int) := by omega
  simp (disch := first | assumption | omega | (simp only [List.length_map, List.length_append, List.length_cons, List.length_nil, List.length_take, List.length_drop, List.length_replicate, List.length_range, repL_length, List.length_reverse, List.length_set, rgI_len, Int.toNat_natCast]; omega) | (simp; done) | fail) [-getElem?_pos, b_check_bits, c0]
  rw [any_eq (fun c => D.str [c]) (fun c => !decide (c ∈ [48, 49])) l (by omega) fun c _ => ⟨_, rfl, by simp⟩, bits_any hb]
  simp
theorem csum_ok (l : List Nat) (h : Hc) (hl : l.length ≤ 4000) (hb : Bits l) : m_check_summed [.str l] h = .ok .non h := by
  rw [m_check_summed_ap]
  have e : (sDo (eCall 1 m_check_bits (aCons (eVar 0) aNil))) [.v (.str l)] h = .nx [.v (.str l)] h := by simp [cbits_ok l h hl hb]
  unfold b_check_summed sTryX
  rw [e]
  rfl
/-- a row to part by: 1 ahead of g -/
structure By (by' g : List Nat) : Prop where
  e : by' = 49 :: g
  b : Bits g
  l0 : 1 ≤ g.length
  l1 : g.length ≤ 16
theorem By.bits {y g : List Nat} (b : By y g) : Bits y := by
  rw [b.e]
  intro c hc
  rcases List.mem_cons.mp hc with rfl | hc
  · exact .inr rfl
  · exact b.b c hc
theorem By.len {y g : List Nat} (b : By y g) : y.length = g.length + 1 := by rw [b.e]; rfl
theorem cby_ok {y g : List Nat} (b : By y g) (h : Hc) : m_check_by [.str y] h = .ok .non h := by
  rw [m_check_by_ap]
  have hl := b.len
  have l0 := b.l0
  have l1 := b.l1
  have c := csum_ok y h (by omega) b.bits
  have e := b.e
  have hat : atI y 0 = some 49 := by rw [e]; exact atI_0
  have c1 : (2 : Int) ≤ y.length := by omega
  have c2 : (y.length : Int) ≤ 17 := by omega
  simp (disch := first | assumption | omega | (simp only [List.length_map, List.length_append, List.length_cons, List.length_nil, List.length_take, List.length_drop, List.length_replicate, List.length_range, repL_length, List.length_reverse, List.length_set, rgI_len, Int.toNat_natCast]; omega) | (simp; done) | fail) [-getElem?_pos, b_check_by, c, c1, c2, hat]
theorem zip_xorF : ∀ (a b : List Nat), (a.zip b).map (fun p : Nat × Nat => xo p.1 p.2) = xorF a b
  | [], _ => rfl
  | _ :: _, [] => rfl
  | a :: as, b :: bs => by
    show xo a b :: (as.zip bs).map _ = xo a b :: xorF as bs
    rw [zip_xorF as bs]
theorem flat_one (l : List Nat) : (l.map fun c => [c]).flatten = l := by
  induction l with
  | nil => rfl
  | cons a l ih => simp [ih]
theorem sum_one (l : List Nat) : ((l.map fun c => [c]).map List.length).sum = l.length := by
  induction l with
  | nil => rfl
  | cons a l ih => simp only [List.map_cons, List.sum_cons, ih, List.length_cons, List.length_nil]; omega
/-- signs joined -/
theorem join_signs (l : List Nat) (h : Hc) (hl : l.length ≤ 16777216) : mJoin (.str []) (.lst (l.map fun c => D.str [c])) h = .ok (.str l) h := by
  rw [mJoin_ok (ps := l.map fun c => [c]) strs?_map (by rw [sum_one]; exact hl), flat_one]
theorem asc {l : List Nat} (hb : Bits l) : l.all (· < 128) = true := by
  rw [List.all_eq_true]
  intro c hc
  rcases hb c hc with rfl | rfl <;> rfl
@[simp] theorem iZpS_ap {a : AM} {ρ : Rho} {h : Hc} : iZpS a ρ h = R.fnL kZipS (a ρ h) := id rfl
theorem kZipS_ok {a b : List Nat} {h : Hc} (ha : Bits a) (hb : Bits b) : kZipS [.str a, .str b] h = .ok ((a.zip b).map fun p => .tup [.str [p.1], .str [p.2]]) h := if_pos ⟨asc ha, asc hb⟩
theorem without_ok (a b : List Nat) (h : Hc) (ha : Bits a) (hb : Bits b) (hl : a.length ≤ 5000) : m_without [.str a, .str b] h = .ok (.str (xorF a b)) h := by
  rw [m_without_ap]
  have lz : (a.zip b).length ≤ 16777216 := by rw [List.length_zip]; omega
  simp (disch := first | assumption | omega | (simp only [List.length_map, List.length_append, List.length_cons, List.length_nil, List.length_take, List.length_drop, List.length_replicate, List.length_range, repL_length, List.length_reverse, List.length_set, rgI_len, Int.toNat_natCast]; omega) | (simp; done) | fail) [-getElem?_pos, b_without, kZipS_ok ha hb]
  rw [lc_eq (fun p : Nat × Nat => D.tup [.str [p.1], .str [p.2]]) (fun p => .str [xo p.1 p.2]) (a.zip b) lz fun p _ => ⟨_, rfl, by
    by_cases q : p.1 = p.2
    · simp [xo, q]
    · simp [xo, q]⟩]
  have e : (a.zip b).map (fun p : Nat × Nat => D.str [xo p.1 p.2]) = (xorF a b).map fun c => D.str [c] := by rw [← zip_xorF, List.map_map]; rfl
  rw [e, R.bin2_ok, join_signs _ _ (by rw [xorF_len]; omega)]
  rfl
theorem numD01 (p : Prop) [Decidable p] : numD (if p then 0 else 1) = [if p then 48 else 49] := by split <;> rfl
theorem lxor_ok (a b : List Nat) (h : Hc) (ha : Bits a) (hb : Bits b) (hl : a.length ≤ 5000) : m__law_xor [.str a, .str b] h = .ok (.str (xorF a b)) h := by
  rw [m__law_xor_ap]
  have lz : (a.zip b).length ≤ 16777216 := by rw [List.length_zip]; omega
  simp (disch := first | assumption | omega | (simp only [List.length_map, List.length_append, List.length_cons, List.length_nil, List.length_take, List.length_drop, List.length_replicate, List.length_range, repL_length, List.length_reverse, List.length_set, rgI_len, Int.toNat_natCast]; omega) | (simp; done) | fail) [-getElem?_pos, b__law_xor, kZipS_ok ha hb]
  rw [lc_eq (fun p : Nat × Nat => D.tup [.str [p.1], .str [p.2]]) (fun p => .str [xo p.1 p.2]) (a.zip b) lz fun p _ => ⟨_, rfl, by
    by_cases q : p.1 = p.2
    · simp [xo, q]; rfl
    · simp [xo, q]; rfl⟩]
  have e : (a.zip b).map (fun p : Nat × Nat => D.str [xo p.1 p.2]) = (xorF a b).map fun c => D.str [c] := by rw [← zip_xorF, List.map_map]; rfl
  rw [e, R.bin2_ok, join_signs _ _ (by rw [xorF_len]; omega)]
  rfl
theorem pstp_len {g l : List Nat} (c : g.length + 1 ≤ l.length) : (pstp g l).length = l.length - 1 := by
  cases l with
  | nil => simp at c
  | cons a t =>
    simp only [List.length_cons] at c ⊢
    show (if a = 49 then xorF (t.take g.length) g ++ t.drop g.length else t).length = _
    split
    · rw [List.length_append, xorF_len, List.length_take, List.length_drop]; omega
    · omega
/-- the while of rest, rest_alone -/
def rcond (g : List Nat) (l : List Nat) : Bool := decide (g.length + 1 ≤ l.length)
theorem wh_iter (g : List Nat) : ∀ (m : Nat) (l : List Nat), l.length ≤ m → wh (rcond g) (pstp g) m l = restP g l
  | 0, l, h => by
    have : l.length - g.length = 0 := by omega
    unfold restP
    rw [this]
    rfl
  | m + 1, l, h => by
    show (if rcond g l = true then wh (rcond g) (pstp g) m (pstp g l) else l) = _
    by_cases c : g.length + 1 ≤ l.length
    · have lp := pstp_len (g := g) c
      have hc : rcond g l = true := decide_eq_true c
      rw [if_pos hc, wh_iter g m _ (by omega)]
      unfold restP
      rw [lp, show l.length - g.length = (l.length - 1 - g.length) + 1 by omega]
      rfl
    · have hc : rcond g l = false := decide_eq_false c
      rw [hc]
      unfold restP
      rw [show l.length - g.length = 0 by omega]
      rfl
theorem pstp_bits {g l : List Nat} (hb : Bits l) : Bits (pstp g l) := by
  unfold pstp
  split
  · exact fun c h => by cases h
  · split
    · exact (xorF_bits _ _).app (Bits.drop (fun c hc => hb c (List.mem_cons_of_mem _ hc)) _)
    · exact fun c hc => hb c (List.mem_cons_of_mem _ hc)
theorem rest_while {y g : List Nat} (b : By y g) (x0 : D) (h : Hc) (l : List Nat) (hl : l.length ≤ 4500) (hb : Bits l) :
    whileM (tB1 (eBin opGe (eBi bLen (aCons (eLook 2) aNil)) (eBi bLen (aCons (eLook 1) aNil)))) b_rest_0 1000000 [.v x0, .v (.str y), .v (.str l)] h = .nx [.v x0, .v (.str y), .v (.str (restP g l))] h := by
  have hy := b.len
  have l1 := b.l1
  have st := while_eq (t := tB1 (eBin opGe (eBi bLen (aCons (eLook 2) aNil)) (eBi bLen (aCons (eLook 1) aNil)))) (b := b_rest_0) (fun l : List Nat => [.v x0, .v (.str y), .v (.str l)]) (rcond g) (pstp g) (fun l => l.length ≤ 4500 ∧ Bits l) List.length h (fun l ⟨hl, hb⟩ => ⟨?_, fun hc => ?_⟩) 1000000 l.length l (by omega) (Nat.le_refl _) ⟨hl, hb⟩
  · rw [st.1, wh_iter g _ l (Nat.le_refl _)]
  · have e : decide (y.length ≤ l.length) = rcond g l := by
      unfold rcond
      rw [hy]
    simp (disch := first | assumption | omega | (simp only [List.length_map, List.length_append, List.length_cons, List.length_nil, List.length_take, List.length_drop, List.length_replicate, List.length_range, repL_length, List.length_reverse, List.length_set, rgI_len, Int.toNat_natCast]; omega) | (simp; done) | fail) [-getElem?_pos, e]
  · have c : g.length + 1 ≤ l.length := of_decide_eq_true hc
    have pl := pstp_len (g := g) c
    refine ⟨.inl ?_, ⟨by omega, pstp_bits hb⟩, by omega⟩
    cases l with
    | nil => simp at c
    | cons a t =>
      simp only [List.length_cons] at c hl
      have bt : Bits t := fun c hc => hb c (List.mem_cons_of_mem _ hc)
      rcases hb a List.mem_cons_self with rfl | rfl
      · have e1 : cutL (48 :: t) (some 1) none = t := by rw [cutL_lo (by omega)]; rfl
        simp (disch := first | assumption | omega | (simp only [List.length_map, List.length_append, List.length_cons, List.length_nil, List.length_take, List.length_drop, List.length_replicate, List.length_range, repL_length, List.length_reverse, List.length_set, rgI_len, Int.toNat_natCast]; omega) | (simp; done) | fail) [-getElem?_pos, b_rest_0, e1, pstp]
      · have e2 : cutL (49 :: t) none (some (y.length : Int)) = 49 :: t.take g.length := by
          rw [cutL_hi (by omega), Int.toNat_natCast, hy, List.take_succ_cons]
        have e3 : cutL (49 :: t) (some (y.length : Int)) none = t.drop g.length := by
          rw [cutL_lo (by omega), Int.toNat_natCast, hy, List.drop_succ_cons]
        have w := without_ok (49 :: t.take g.length) y h (fun c hc => (List.mem_cons.mp hc).elim (fun z => .inr z) (bt.take _ c)) b.bits (by rw [List.length_cons, List.length_take]; omega)
        have e4 : xorF (49 :: t.take g.length) y = 48 :: xorF (t.take g.length) g := by rw [b.e]; rfl
        rw [e4] at w
        have lx : (xorF (t.take g.length) g).length ≤ 20 := by rw [xorF_len]; omega
        have e5 : cutL (48 :: (xorF (t.take g.length) g ++ t.drop g.length)) (some 1) none = xorF (t.take g.length) g ++ t.drop g.length := by rw [cutL_lo (by omega)]; rfl
        simp (disch := first | assumption | omega | (simp only [List.length_map, List.length_append, List.length_cons, List.length_nil, List.length_take, List.length_drop, List.length_replicate, List.length_range, repL_length, List.length_reverse, List.length_set, rgI_len, Int.toNat_natCast]; omega) | (simp; done) | fail) [-getElem?_pos, b_rest_0, e2, e3, w, e5, pstp]
end Z

namespace Z
open PySem PySem.Spec L2
/-! k13, plain: the draws -/
def Dc (h : Hc) : Prop := ∃ a b c : Int, h = [.box (.lst [.int a, .int b, .int c])]
theorem roll_eq (a b c m : Int) (hm : 0 < m) (hM : m ≤ 100000000) : m__law_roll [.ref 0, .int m] [.box (.lst [.int a, .int b, .int c])] =
    if c = 2 ∨ (c = 1 ∧ 0 < a) then .ok (.int (a.fmod m)) [.box (.lst [.int (a.fdiv m), .int b, .int c])]
    else .ok (.int ((((a * 48271 + b * 69621 + 11).fmod 2147483647).fdiv 7).fmod m)) [.box (.lst [.int ((a * 48271 + b * 69621 + 11).fmod 2147483647), .int (b + 1), .int 0])] := by
  show (b__law_roll mBad [.v (.ref 0), .v (.int m), .u] [.box (.lst [.int a, .int b, .int c])]).toR = _
  have h1 : m ≠ 0 := by omega
  have h2 : m.natAbs < 1073741824 := by omega
  have h3 : ¬ 100000000 < m := by omega
  by_cases e1 : c = 2
  · subst e1
    simp [b__law_roll, s__law_roll_0, s__law_roll_1, s__law_roll_2, s__law_roll_3, s__law_roll_4, s__law_roll_5, sKl, sSeq, sIf, tOrM, tAndM, tB1, eBin, eLook, eVar, eC, opIx, opGt, opAdd, opMul, unbox, atI, ixN, opEq, pl, D.eqv, sSet, opMod, opDiv, eBi, bInt, aCons, aNil, sPut, held, isL, putAt, put, sRet, O.toR, O.kill, sNx, D.nl, nls, opCmp, h1, h2, h3]
  · by_cases e2 : c = 1 ∧ 0 < a
    · obtain ⟨rfl, e3⟩ := e2
      simp [b__law_roll, s__law_roll_0, s__law_roll_1, s__law_roll_2, s__law_roll_3, s__law_roll_4, s__law_roll_5, sKl, sSeq, sIf, tOrM, tAndM, tB1, eBin, eLook, eVar, eC, opIx, opGt, opAdd, opMul, unbox, atI, ixN, opEq, pl, D.eqv, sSet, opMod, opDiv, eBi, bInt, aCons, aNil, sPut, held, isL, putAt, put, sRet, O.toR, O.kill, sNx, D.nl, nls, opCmp, h1, h2, h3, e3]
    · have e4 : ¬ (c = 2 ∨ (c = 1 ∧ 0 < a)) := fun z => z.elim e1 e2
      rw [if_neg e4]
      by_cases e5 : c = 1
      · have e6 : ¬ 0 < a := fun z => e2 ⟨e5, z⟩
        simp [b__law_roll, s__law_roll_0, s__law_roll_1, s__law_roll_2, s__law_roll_3, s__law_roll_4, s__law_roll_5, sKl, sSeq, sIf, tOrM, tAndM, tB1, eBin, eLook, eVar, eC, opIx, opGt, opAdd, opMul, unbox, atI, ixN, opEq, pl, D.eqv, sSet, opMod, opDiv, eBi, bInt, aCons, aNil, sPut, held, isL, putAt, put, sRet, O.toR, O.kill, sNx, D.nl, nls, opCmp, h1, h2, h3, e1, e5, e6]
      · simp [b__law_roll, s__law_roll_0, s__law_roll_1, s__law_roll_2, s__law_roll_3, s__law_roll_4, s__law_roll_5, sKl, sSeq, sIf, tOrM, tAndM, tB1, eBin, eLook, eVar, eC, opIx, opGt, opAdd, opMul, unbox, atI, ixN, opEq, pl, D.eqv, sSet, opMod, opDiv, eBi, bInt, aCons, aNil, sPut, held, isL, putAt, put, sRet, O.toR, O.kill, sNx, D.nl, nls, opCmp, h1, h2, h3, e1, e5]
theorem fmod_in {a m : Int} (hm : 0 < m) : 0 ≤ a.fmod m ∧ a.fmod m < m := ⟨Int.fmod_nonneg_of_pos a hm, Int.fmod_lt_of_pos a hm⟩
theorem roll_ok {h : Hc} {m : Int} (d : Dc h) (hm : 0 < m) (hM : m ≤ 100000000) : ∃ v h', m__law_roll [.ref 0, .int m] h = .ok (.int v) h' ∧ 0 ≤ v ∧ v < m ∧ Dc h' := by
  obtain ⟨a, b, c, rfl⟩ := d
  rw [roll_eq a b c m hm hM]
  split
  · exact ⟨_, _, rfl, (fmod_in hm).1, (fmod_in hm).2, _, _, _, rfl⟩
  · exact ⟨_, _, rfl, (fmod_in hm).1, (fmod_in hm).2, _, _, _, rfl⟩
theorem rounds_ok (ns : List Int) : ∃ h, m__law_rounds [.scr (ns.map D.int), .int 1] [] = .ok (.lst [.ref 0]) h ∧ Dc h := by
  have dice : ∀ n : Int, ∃ h, m__law_dice [.int n] [] = .ok (.ref 0) h ∧ Dc h := by
    intro n
    show ∃ h, (b__law_dice [.v (.int n)] []).toR = .ok (.ref 0) h ∧ Dc h
    by_cases c1 : -10 < n
    · by_cases c2 : n < 10
      · exact ⟨_, by simp [b__law_dice, c1, c2]; exact ⟨rfl, rfl, rfl⟩, _, _, _, rfl⟩
      · exact ⟨_, by simp [b__law_dice, c1, c2]; exact ⟨rfl, rfl, rfl⟩, _, _, _, rfl⟩
    · exact ⟨_, by simp [b__law_dice, c1]; exact ⟨rfl, rfl, rfl⟩, _, _, _, rfl⟩
  show ∃ h, (b__law_rounds [.v (.scr (ns.map D.int)), .v (.int 1), .u, .u] []).toR = .ok (.lst [.ref 0]) h ∧ Dc h
  have one : ∀ (n : Int) (ρ : Rho), ρ.length = 4 → ∃ h, R.lc (.n 3) tYesM (eCall 1 m__law_dice (aCons (eVar 3) aNil)) ρ (.ok [.int n] []) = .ok (.lst [.ref 0]) h ∧ Dc h := fun n ρ hl => by
    obtain ⟨h, e, d⟩ := dice n
    match ρ, hl with
    | [a, b, c, x], _ => exact ⟨h, R.lc_of (by simp) (by simp [lcLoop, tYesM, e]), d⟩
  cases ns with
  | nil =>
    obtain ⟨h, e, d⟩ := one 0 [.v (.scr []), .v (.int 1), .v (.lst [.int 0]), .u] rfl
    refine ⟨h, ?_, d⟩
    simp [b__law_rounds, cutL_hi, e]
  | cons n ns =>
    obtain ⟨h, e, d⟩ := one n [.v (.scr (.int n :: ns.map D.int)), .v (.int 1), .v (.lst [.int n]), .u] rfl
    refine ⟨h, ?_, d⟩
    simp [b__law_rounds, cutL_hi, e]
/-- a row of bits was drawn -/
theorem bits_ok {h : Hc} (d : Dc h) (least most : Int) (h0 : 0 ≤ least) (h1 : least ≤ 100) (hm : 0 < most) (hM : most ≤ 100) :
    ∃ l h', m__law_bits [.ref 0, .int least, .int most] h = .ok (.str l) h' ∧ Bits l ∧ least ≤ l.length ∧ l.length < least + most ∧ Dc h' := by
  obtain ⟨v, h2, e2, v0, v1, d2⟩ := roll_ok d hm (by omega)
  obtain ⟨l, h', e, hl, hr, d'⟩ := lc_draw (t := .n 3) (em := eBin opIx (eC (.str [48, 49])) (eCall 2 m__law_roll (aCons (eVar 0) (aCons (eC (.int 2)) aNil))))
    (ρ := [.v (.ref 0), .v (.int least), .v (.int most), .u]) Dc (fun c => D.str [c]) (fun c => c = 48 ∨ c = 49) ((rgI 0 (least + v).toNat).map D.int) h2 d2 fun dd _ h1 d1 => by
      obtain ⟨a, h2, e2, a0, a1, d2⟩ := roll_ok (m := 2) d1 (by omega) (by omega)
      have ea : atI [48, 49] a = some (48 + a.toNat) := by
        rw [atI_pos a0]
        rcases (show a = 0 ∨ a = 1 by omega) with rfl | rfl <;> rfl
      exact ⟨_, rfl, 48 + a.toNat, h2, by simp [e2, ea], by omega, d2⟩
  rw [List.length_map, rgI_len] at hl
  refine ⟨l, h', ?_, hr, by omega, by omega, d'⟩
  rw [m__law_bits_ap]
  simp (disch := first | assumption | omega | (simp only [List.length_map, List.length_append, List.length_cons, List.length_nil, List.length_take, List.length_drop, List.length_replicate, List.length_range, repL_length, List.length_reverse, List.length_set, rgI_len, Int.toNat_natCast]; omega) | (simp; done) | fail) [-getElem?_pos, b__law_bits, e2]
  rw [R.lc_of (by rw [List.length_map, rgI_len]; omega) e, R.bin2_ok, join_signs l h' (by omega)]
  rfl
end Z

namespace Z
open PySem PySem.Spec L2
/-! k13, plain: the rest -/
theorem restP_eq (g l : List Nat) : restP g l = iterP g (l.length - g.length) l := rfl
theorem restP_len (g : List Nat) : ∀ (m : Nat) (l : List Nat), l.length ≤ m → g.length ≤ l.length → (restP g l).length = g.length
  | 0, l, h, hg => by
    unfold restP
    rw [show l.length - g.length = 0 by omega]
    show l.length = _
    omega
  | m + 1, l, h, hg => by
    by_cases c : g.length + 1 ≤ l.length
    · have lp := pstp_len (g := g) c
      have ih := restP_len g m (pstp g l) (by omega) (by omega)
      unfold restP at ih ⊢
      rw [lp] at ih
      rw [show l.length - g.length = (l.length - 1 - g.length) + 1 by omega]
      exact ih
    · unfold restP
      rw [show l.length - g.length = 0 by omega]
      show l.length = _
      omega
theorem repZ (n : Int) (h : 0 ≤ n) : repL [48] n = List.replicate n.toNat 48 := by
  unfold repL
  generalize n.toNat = k
  induction k with
  | zero => rfl
  | succ k ih => rw [List.replicate_succ, List.flatten_cons, ih]; rfl
theorem whole_bits {g X : List Nat} (hX : Bits X) : Bits (X ++ List.replicate g.length 48) := hX.app (bits_zero _)
theorem rest_ok {y g : List Nat} (b : By y g) (X : List Nat) (h : Hc) (hl : X.length ≤ 100) (hX : Bits X) : m_rest [.str X, .str y] h = .ok (.str (lawR g (X ++ List.replicate g.length 48))) h := by
  rw [m_rest_ap]
  have hy := b.len
  have l0 := b.l0
  have l1 := b.l1
  have er : repL [48] ((y.length : Int) - 1) = List.replicate g.length 48 := by rw [repZ _ (by omega)]; congr 1; omega
  have ll : (X ++ List.replicate g.length 48).length ≤ 4500 := by rw [List.length_append, List.length_replicate]; omega
  have w := rest_while b (.str X) h (X ++ List.replicate g.length 48) ll (whole_bits hX)
  have c3 : -1048576 ≤ (y.length : Int) - 1 ∧ (y.length : Int) - 1 ≤ 16777216 := by omega
  simp (disch := first | assumption | omega | (simp only [List.length_map, List.length_append, List.length_cons, List.length_nil, List.length_take, List.length_drop, List.length_replicate, List.length_range, repL_length, List.length_reverse, List.length_set, rgI_len, Int.toNat_natCast]; omega) | (simp; done) | fail) [-getElem?_pos, b_rest, csum_ok X h (by omega) hX, cby_ok b h, er]
  rw [w, lawR_rest l0 (by rw [List.length_append, List.length_replicate]; omega)]
  simp
theorem alone_ok {y g : List Nat} (b : By y g) (X : List Nat) (h : Hc) (hl : X.length ≤ 200) (hX : Bits X) : m_rest_alone [.str X, .str y] h = .ok (.str (lawR g X)) h := by
  rw [m_rest_alone_ap]
  have hy := b.len
  have l0 := b.l0
  have l1 := b.l1
  have w := rest_while b (.str X) h X (by omega) hX
  have e0 : b_rest_alone_0 = b_rest_0 := rfl
  have key : List.replicate (g.length - (restP g X).length) 48 ++ restP g X = lawR g X ∧ (restP g X).length ≤ g.length := by
    by_cases c : g.length ≤ X.length
    · have := restP_len g _ X (Nat.le_refl _) c
      rw [lawR_rest l0 c, this, Nat.sub_self]
      exact ⟨rfl, Nat.le_refl _⟩
    · have e : restP g X = X := by
        unfold restP
        rw [show X.length - g.length = 0 by omega]
        rfl
      rw [lawR_short l0 (by omega), e]
      exact ⟨rfl, by omega⟩
  have er : repL [48] ((y.length : Int) - 1 - (restP g X).length) = List.replicate (g.length - (restP g X).length) 48 := by
    rw [repZ _ (by omega)]
    congr 1
    omega
  have k2 := key.2
  simp (disch := first | assumption | omega | (simp only [List.length_map, List.length_append, List.length_cons, List.length_nil, List.length_take, List.length_drop, List.length_replicate, List.length_range, repL_length, List.length_reverse, List.length_set, rgI_len, Int.toNat_natCast]; omega) | (simp; done) | fail) [-getElem?_pos, b_rest_alone, e0]
  rw [w]
  simp (disch := first | assumption | omega | (simp only [List.length_map, List.length_append, List.length_cons, List.length_nil, List.length_take, List.length_drop, List.length_replicate, List.length_range, repL_length, List.length_reverse, List.length_set, rgI_len, Int.toNat_natCast]; omega) | (simp; done) | fail) [-getElem?_pos, er, key.1]
theorem lrest_ok {y g : List Nat} (b : By y g) (X : List Nat) (h : Hc) (hl : X.length ≤ 200) (hX : Bits X) : m__law_rest [.str X, .str y] h = .ok (.str (lawR g X)) h := by
  rw [m__law_rest_ap]
  have hy := b.len
  have l0 := b.l0
  have l1 := b.l1
  have er : repL [48] ((y.length : Int) - 1) = List.replicate g.length 48 := by rw [repZ _ (by omega)]; congr 1; omega
  have ey : cutL y (some 1) none = g := by rw [b.e, cutL_lo (by omega)]; rfl
  simp (disch := first | assumption | omega | (simp only [List.length_map, List.length_append, List.length_cons, List.length_nil, List.length_take, List.length_drop, List.length_replicate, List.length_range, repL_length, List.length_reverse, List.length_set, rgI_len, Int.toNat_natCast]; omega) | (simp; done) | fail) [-getElem?_pos, b__law_rest, er]
  refine for_eq (fun c : Nat => D.str [c]) (fun R : List Nat => [.v (.str X), .v (.str y), .v (.str R), .u, .u]) (lstp g) (fun _ R => R.length = g.length ∧ Bits R) X (List.replicate g.length 48) ⟨by simp, bits_zero _⟩ (fun j c R e o => ?_) (fun o => ?_)
  · obtain ⟨o1, o2⟩ := o
    have hc := hX c (List.mem_of_getElem? e)
    refine ⟨_, rfl, .inl ?_, lstp_len o1 l0, lstp_bits o2 hc⟩
    cases R with
    | nil => simp at o1; omega
    | cons r R =>
      simp only [List.length_cons] at o1
      have e1 : cutL (r :: R) (some 1) none = R := by rw [cutL_lo (by omega)]; rfl
      have bR : Bits (R ++ [c]) := Bits.app (fun x h => o2 x (List.mem_cons_of_mem _ h)) fun x h => by rw [List.mem_singleton.mp h]; exact hc
      have lx := lxor_ok (R ++ [c]) g h bR b.b (by rw [List.length_append]; simp; omega)
      rcases o2 r List.mem_cons_self with rfl | rfl
      · simp (disch := first | assumption | omega | (simp only [List.length_map, List.length_append, List.length_cons, List.length_nil, List.length_take, List.length_drop, List.length_replicate, List.length_range, repL_length, List.length_reverse, List.length_set, rgI_len, Int.toNat_natCast]; omega) | (simp; done) | fail) [-getElem?_pos, b__law_rest_0, sKl, O.kill, e1, lstp]
      · simp (disch := first | assumption | omega | (simp only [List.length_map, List.length_append, List.length_cons, List.length_nil, List.length_take, List.length_drop, List.length_replicate, List.length_range, repL_length, List.length_reverse, List.length_set, rgI_len, Int.toNat_natCast]; omega) | (simp; done) | fail) [-getElem?_pos, b__law_rest_0, sKl, O.kill, e1, lstp, ey, lx]
  · simp [lawR]
theorem lwhole_ok {y g : List Nat} (b : By y g) (X : List Nat) (h : Hc) (hl : X.length ≤ 100) (hX : Bits X) : m__law_whole [.str X, .str y] h = .ok (.str (X ++ lawR g (X ++ List.replicate g.length 48))) h := by
  rw [m__law_whole_ap]
  have hy := b.len
  have l0 := b.l0
  have l1 := b.l1
  have er : repL [48] ((y.length : Int) - 1) = List.replicate g.length 48 := by rw [repZ _ (by omega)]; congr 1; omega
  have k := lrest_ok b (X ++ List.replicate g.length 48) h (by rw [List.length_append, List.length_replicate]; omega) (whole_bits hX)
  have ln := lawR_len l0 (X ++ List.replicate g.length 48)
  simp (disch := first | assumption | omega | (simp only [List.length_map, List.length_append, List.length_cons, List.length_nil, List.length_take, List.length_drop, List.length_replicate, List.length_range, repL_length, List.length_reverse, List.length_set, rgI_len, Int.toNat_natCast]; omega) | (simp; done) | fail) [-getElem?_pos, b__law_whole, er, k]
theorem with_ok {y g : List Nat} (b : By y g) (X : List Nat) (h : Hc) (hl : X.length ≤ 100) (hX : Bits X) : m_with_rest [.str X, .str y] h = .ok (.str (X ++ lawR g (X ++ List.replicate g.length 48))) h := by
  rw [m_with_rest_ap]
  have l0 := b.l0
  have l1 := b.l1
  have ln := lawR_len l0 (X ++ List.replicate g.length 48)
  simp (disch := first | assumption | omega | (simp only [List.length_map, List.length_append, List.length_cons, List.length_nil, List.length_take, List.length_drop, List.length_replicate, List.length_range, repL_length, List.length_reverse, List.length_set, rgI_len, Int.toNat_natCast]; omega) | (simp; done) | fail) [-getElem?_pos, b_with_rest, rest_ok b X h hl hX]
/-- is the row whole -/
def rightF (g X : List Nat) : Bool := decide (X.take (X.length - g.length) ++ lawR g (X.take (X.length - g.length) ++ List.replicate g.length 48) = X)
theorem right_ok {y g : List Nat} (b : By y g) (X : List Nat) (h : Hc) (hl : X.length ≤ 100) (hX : Bits X) : m_is_right [.str X, .str y] h = if X.length < g.length then .ex 2 h else .ok (.bl (rightF g X)) h := by
  rw [m_is_right_ap]
  have hy := b.len
  have l0 := b.l0
  have l1 := b.l1
  by_cases c : X.length < g.length
  · have c1 : (X.length : Int) < (y.length : Int) - 1 := by omega
    simp (disch := first | assumption | omega | (simp only [List.length_map, List.length_append, List.length_cons, List.length_nil, List.length_take, List.length_drop, List.length_replicate, List.length_range, repL_length, List.length_reverse, List.length_set, rgI_len, Int.toNat_natCast]; omega) | (simp; done) | fail) [-getElem?_pos, b_is_right, c, c1]
  · have c1 : ¬ (X.length : Int) < (y.length : Int) - 1 := by omega
    have e1 : cutL X none (some ((X.length : Int) - ((y.length : Int) - 1))) = X.take (X.length - g.length) := by
      rw [cutL_hi (by omega)]
      congr 1
      omega
    have w := with_ok b (X.take (X.length - g.length)) h (by rw [List.length_take]; omega) (hX.take _)
    simp (disch := first | assumption | omega | (simp only [List.length_map, List.length_append, List.length_cons, List.length_nil, List.length_take, List.length_drop, List.length_replicate, List.length_range, repL_length, List.length_reverse, List.length_set, rgI_len, Int.toNat_natCast]; omega) | (simp; done) | fail) [-getElem?_pos, b_is_right, c, c1, cby_ok b h, e1, w, rightF]
theorem xsum_ok {y g : List Nat} (b : By y g) (A B : List Nat) (h : Hc) (hA : A.length = g.length) (hB : B.length = g.length) (bA : Bits A) (bB : Bits B) : m_rest_of_sum [.str A, .str B, .str y] h = .ok (.str (xorF A B)) h := by
  rw [m_rest_of_sum_ap]
  have hy := b.len
  have l0 := b.l0
  have l1 := b.l1
  have c1 : (A.length : Int) = (y.length : Int) - 1 := by omega
  have c2 : (B.length : Int) = (A.length : Int) := by omega
  have k := csum_ok (A ++ B) h (by rw [List.length_append]; omega) (bA.app bB)
  have w := without_ok A B h bA bB (by omega)
  simp (disch := first | assumption | omega | (simp only [List.length_map, List.length_append, List.length_cons, List.length_nil, List.length_take, List.length_drop, List.length_replicate, List.length_range, repL_length, List.length_reverse, List.length_set, rgI_len, Int.toNat_natCast]; omega) | (simp; done) | fail) [-getElem?_pos, b_rest_of_sum, cby_ok b h, c1, c2, k, w, hA, hB, hy]
end Z

namespace Z
open PySem PySem.Spec L2
/-! k13, plain: one slip -/
def flip1 (c : Nat) : Nat := if c = 48 then 49 else 48
def turnF (X : List Nat) (k : Nat) : List Nat := X.take k ++ [flip1 (X[k]?.getD 48)] ++ X.drop (k + 1)
theorem flip1_bit (c : Nat) : flip1 c = 48 ∨ flip1 c = 49 := by unfold flip1; split <;> simp
theorem turn_bits {X : List Nat} (hX : Bits X) (k : Nat) : Bits (turnF X k) :=
  ((hX.take k).app fun c h => by rw [List.mem_singleton.mp h]; exact flip1_bit _).app (hX.drop _)
theorem turn_len {X : List Nat} {k : Nat} (hk : k < X.length) : (turnF X k).length = X.length := by
  unfold turnF
  simp only [List.length_append, List.length_take, List.length_drop, List.length_cons, List.length_nil]
  omega
theorem bInt_0 (h : Hc) : bInt [.str [48]] h = .ok (.int 0) h := by kernel_rfl
theorem bInt_1 (h : Hc) : bInt [.str [49]] h = .ok (.int 1) h := by kernel_rfl
theorem numD_0 : numD 0 = [48] := by kernel_rfl
theorem numD_1 : numD 1 = [49] := by kernel_rfl
theorem lturn_ok (X : List Nat) (k : Nat) (h : Hc) (hl : X.length ≤ 100) (hX : Bits X) (hk : k < X.length) : m__law_turn [.str X, .int k] h = .ok (.str (turnF X k)) h := by
  rw [m__law_turn_ap]
  have e1 : cutL X none (some (k : Int)) = X.take k := by rw [cutL_hi (by omega), Int.toNat_natCast]
  have e2 : cutL X (some ((k : Int) + 1)) none = X.drop (k + 1) := by rw [cutL_lo (by omega)]; rfl
  have hat : atI X k = some X[k] := by rw [atI_pos (by omega), Int.toNat_natCast]; exact List.getElem?_eq_getElem hk
  have eg : X[k]?.getD 48 = X[k] := by rw [List.getElem?_eq_getElem hk]; rfl
  have tl := turn_len hk
  unfold turnF
  rw [eg]
  rcases hX X[k] (List.getElem_mem hk) with q | q
  · rw [q] at hat ⊢
    simp (disch := first | assumption | omega | (simp only [List.length_map, List.length_append, List.length_cons, List.length_nil, List.length_take, List.length_drop, List.length_replicate, List.length_range, repL_length, List.length_reverse, List.length_set, rgI_len, Int.toNat_natCast]; omega) | (simp; done) | fail) [-getElem?_pos, b__law_turn, e1, e2, hat, flip1, bInt_0, bInt_1, numD_0, numD_1]
    try rfl
  · rw [q] at hat ⊢
    simp (disch := first | assumption | omega | (simp only [List.length_map, List.length_append, List.length_cons, List.length_nil, List.length_take, List.length_drop, List.length_replicate, List.length_range, repL_length, List.length_reverse, List.length_set, rgI_len, Int.toNat_natCast]; omega) | (simp; done) | fail) [-getElem?_pos, b__law_turn, e1, e2, hat, flip1, bInt_0, bInt_1, numD_0, numD_1]
    try rfl
def hitsF (g X : List Nat) : List Int := (rgI 0 X.length).filter fun k => rightF g (turnF X k.toNat)
theorem fold_fil {α : Type} (p : α → Bool) : ∀ (xs s : List α), xs.foldl (fun s a => if p a = true then s ++ [a] else s) s = s ++ xs.filter p
  | [], s => by simp
  | a :: xs, s => by
    rw [List.foldl_cons, fold_fil p xs]
    cases q : p a with
    | true => simp [List.filter_cons, q]
    | false => simp [List.filter_cons, q]
def slipD (l : List Int) : D := match l with
  | [k] => .int k
  | _ => .non
theorem slip_ok {y g : List Nat} (b : By y g) (X : List Nat) (h : Hc) (hl : X.length ≤ 50) (hX : Bits X) (hn : g.length ≤ X.length) : m_one_slip [.str X, .str y] h = .ok (if rightF g X = true then .int (-1) else slipD (hitsF g X)) h := by
  rw [m_one_slip_ap]
  have r0 := right_ok b X h (by omega) hX
  rw [if_neg (by omega)] at r0
  by_cases c : rightF g X = true
  · rw [c] at r0
    simp (disch := first | assumption | omega | (simp only [List.length_map, List.length_append, List.length_cons, List.length_nil, List.length_take, List.length_drop, List.length_replicate, List.length_range, repL_length, List.length_reverse, List.length_set, rgI_len, Int.toNat_natCast]; omega) | (simp; done) | fail) [-getElem?_pos, b_one_slip, r0, c]
  · have c' : rightF g X = false := by simpa using c
    rw [c'] at r0
    rw [if_neg c]
    simp (disch := first | assumption | omega | (simp only [List.length_map, List.length_append, List.length_cons, List.length_nil, List.length_take, List.length_drop, List.length_replicate, List.length_range, repL_length, List.length_reverse, List.length_set, rgI_len, Int.toNat_natCast]; omega) | (simp; done) | fail) [-getElem?_pos, b_one_slip, r0]
    refine for_eq D.int (fun s : List Int => [.v (.str X), .v (.str y), .o (.lst (s.map D.int)), .u, .u]) (fun s k => if rightF g (turnF X k.toNat) = true then s ++ [k] else s) (fun j s => s.length ≤ j) (rgI 0 X.length) [] (by simp) (fun j k s e o => ?_) (fun o => ?_)
    · have hk := List.mem_of_getElem? e
      have hj := (List.getElem?_eq_some_iff.mp e).1
      rw [rgI_len] at hj
      rw [rgI_mem] at hk
      obtain ⟨n, rfl⟩ : ∃ n : Nat, k = n := ⟨k.toNat, by omega⟩
      have hn' : n < X.length := by omega
      have e1 : cutL X none (some (n : Int)) = X.take n := by rw [cutL_hi (by omega), Int.toNat_natCast]
      have e2 : cutL X (some ((n : Int) + 1)) none = X.drop (n + 1) := by rw [cutL_lo (by omega)]; rfl
      have hat : atI X n = some X[n] := by rw [atI_pos (by omega), Int.toNat_natCast]; exact List.getElem?_eq_getElem hn'
      have eg : X[n]?.getD 48 = X[n] := by rw [List.getElem?_eq_getElem hn']; rfl
      have r := right_ok b (turnF X n) h (by rw [turn_len hn']; omega) (turn_bits hX n)
      rw [if_neg (by rw [turn_len hn']; omega)] at r
      have tl := turn_len hn'
      have eT : X.take n ++ (if X[n] = 48 then [49] else [48]) ++ X.drop (n + 1) = turnF X n := by
        unfold turnF flip1
        rw [eg]
        split <;> rfl
      refine ⟨_, rfl, .inl ?_, ?_⟩
      · rcases hX X[n] (List.getElem_mem hn') with q | q
        · rw [q] at hat eT
          simp only [if_true, List.append_assoc, List.cons_append, List.nil_append] at eT
          by_cases z : rightF g (turnF X n) = true
          · simp (disch := first | assumption | omega | (simp only [List.length_map, List.length_append, List.length_cons, List.length_nil, List.length_take, List.length_drop, List.length_replicate, List.length_range, repL_length, List.length_reverse, List.length_set, rgI_len, Int.toNat_natCast]; omega) | (simp; done) | fail) [-getElem?_pos, b_one_slip_0, sKl, O.kill, e1, e2, hat, eT, r, z]
          · simp (disch := first | assumption | omega | (simp only [List.length_map, List.length_append, List.length_cons, List.length_nil, List.length_take, List.length_drop, List.length_replicate, List.length_range, repL_length, List.length_reverse, List.length_set, rgI_len, Int.toNat_natCast]; omega) | (simp; done) | fail) [-getElem?_pos, b_one_slip_0, sKl, O.kill, e1, e2, hat, eT, r, z]
        · rw [q] at hat eT
          simp only [show ¬ ((49 : Nat) = 48) by decide, if_false, List.append_assoc, List.cons_append, List.nil_append] at eT
          by_cases z : rightF g (turnF X n) = true
          · simp (disch := first | assumption | omega | (simp only [List.length_map, List.length_append, List.length_cons, List.length_nil, List.length_take, List.length_drop, List.length_replicate, List.length_range, repL_length, List.length_reverse, List.length_set, rgI_len, Int.toNat_natCast]; omega) | (simp; done) | fail) [-getElem?_pos, b_one_slip_0, sKl, O.kill, e1, e2, hat, eT, r, z]
          · simp (disch := first | assumption | omega | (simp only [List.length_map, List.length_append, List.length_cons, List.length_nil, List.length_take, List.length_drop, List.length_replicate, List.length_range, repL_length, List.length_reverse, List.length_set, rgI_len, Int.toNat_natCast]; omega) | (simp; done) | fail) [-getElem?_pos, b_one_slip_0, sKl, O.kill, e1, e2, hat, eT, r, z]
      · split
        · rw [List.length_append]; simp; omega
        · omega
    · rw [fold_fil (fun k : Int => rightF g (turnF X k.toNat)), List.nil_append]
      show _ = R.ok (slipD (hitsF g X)) h
      unfold hitsF at *
      generalize (rgI 0 X.length).filter (fun k : Int => rightF g (turnF X k.toNat)) = l
      match l with
      | [] => simp [slipD]
      | [k] => simp [slipD]
      | k :: k2 :: l =>
        have c1 : ¬ ((l.length : Int) + 1 + 1 = 1) := by omega
        simp [slipD, c1]
end Z

namespace Z
open PySem PySem.Spec L2
/-! k13, plain: rounds -/
def nxt (g l : List Nat) : List Nat := lawR g (l ++ [48])
theorem nxt_ok {y g : List Nat} (b : By y g) (l : List Nat) (h : Hc) (hl : l.length = g.length) (hb : Bits l) : m_rest_alone [.str (l ++ [48]), .str y] h = .ok (.str (nxt g l)) h ∧ m__law_rest [.str (l ++ [48]), .str y] h = .ok (.str (nxt g l)) h ∧ (nxt g l).length = g.length ∧ Bits (nxt g l) := by
  have l1 := b.l1
  have hb' : Bits (l ++ [48]) := hb.app fun c h => by rw [List.mem_singleton.mp h]; exact .inl rfl
  have ll : (l ++ [48]).length ≤ 200 := by rw [List.length_append]; simp; omega
  exact ⟨alone_ok b _ h ll hb', lrest_ok b _ h ll hb', lawR_len b.l0 _, lawR_bits hb'⟩
/-- round_of: turns left, the number of the turn, where we are -/
def roundF (g f : List Nat) : Nat → Nat → List Nat → Option Nat
  | 0, _, _ => none
  | n + 1, k, l => if nxt g l = f then some k else roundF g f n (k + 1) (nxt g l)
def startF (g : List Nat) : List Nat := List.replicate (g.length - 1) 48 ++ [49]
theorem start_facts {g : List Nat} (h : 1 ≤ g.length) : (startF g).length = g.length ∧ Bits (startF g) := by
  constructor
  · unfold startF
    rw [List.length_append, List.length_replicate]
    simp
    omega
  · exact (bits_zero _).app fun c h => by rw [List.mem_singleton.mp h]; exact .inr rfl
def roundD (o : Option Nat) : D := match o with
  | some k => .int k
  | none => .non
def itN (g : List Nat) : Nat → List Nat → List Nat
  | 0, l => l
  | n + 1, l => itN g n (nxt g l)
theorem rgI_suc (k n : Nat) : rgI (k : Int) (n + 1) = (k : Int) :: rgI ((k + 1 : Nat) : Int) n := by
  unfold rgI
  rw [List.range_succ_eq_map, List.map_cons, List.map_map]
  simp only [List.cons.injEq]
  refine ⟨by omega, List.map_congr_left fun j _ => ?_⟩
  simp only [Function.comp_apply]
  omega
theorem round_loop {y g : List Nat} (b : By y g) (h : Hc) : ∀ (n k : Nat) (l : List Nat), l.length = g.length → Bits l →
    loopM (.n 3) b_round_of_0 ((rgI k n).map D.int) [.v (.str y), .v (.str (startF g)), .v (.str l), .u] h = match roundF g (startF g) n k l with
      | some j => .rt (.int j) h
      | none => .nx [.v (.str y), .v (.str (startF g)), .v (.str (itN g n l)), .u] h
  | 0, k, l, hl, hb => rfl
  | n + 1, k, l, hl, hb => by
    obtain ⟨e1, _, l2, b2⟩ := nxt_ok b l h hl hb
    have l1 := b.l1
    have ih := round_loop b h n (k + 1) (nxt g l) l2 b2
    have er : rgI k (n + 1) = (k : Int) :: rgI ((k + 1 : Nat) : Int) n := rgI_suc k n
    rw [er, List.map_cons]
    by_cases c : nxt g l = startF g
    · have : roundF g (startF g) (n + 1) k l = some k := by
        show (if _ then _ else _) = _
        rw [if_pos c]
      rw [this]
      simp (disch := first | assumption | omega | (simp only [List.length_map, List.length_append, List.length_cons, List.length_nil, List.length_take, List.length_drop, List.length_replicate, List.length_range, repL_length, List.length_reverse, List.length_set, rgI_len, Int.toNat_natCast]; omega) | (simp; done) | fail) [-getElem?_pos, loopM, b_round_of_0, sKl, O.kill, e1, c]
    · have : roundF g (startF g) (n + 1) k l = roundF g (startF g) n (k + 1) (nxt g l) := by
        show (if _ then _ else _) = _
        rw [if_neg c]
      rw [this]
      have st : b_round_of_0 [.v (.str y), .v (.str (startF g)), .v (.str l), .v (.int k)] h = .nx [.v (.str y), .v (.str (startF g)), .v (.str (nxt g l)), .u] h := by
        simp (disch := first | assumption | omega | (simp only [List.length_map, List.length_append, List.length_cons, List.length_nil, List.length_take, List.length_drop, List.length_replicate, List.length_range, repL_length, List.length_reverse, List.length_set, rgI_len, Int.toNat_natCast]; omega) | (simp; done) | fail) [-getElem?_pos, b_round_of_0, sKl, O.kill, e1, c]
      have lp : loopM (.n 3) b_round_of_0 (D.int k :: (rgI ((k + 1 : Nat) : Int) n).map D.int) [.v (.str y), .v (.str (startF g)), .v (.str l), .u] h = loopM (.n 3) b_round_of_0 ((rgI ((k + 1 : Nat) : Int) n).map D.int) [.v (.str y), .v (.str (startF g)), .v (.str (nxt g l)), .u] h := by
        simp only [loopM, bindD, List.set_cons_succ, List.set_cons_zero, List.length_cons, List.length_nil, st]
      rw [lp, ih]
      rfl
theorem round_ok {y g : List Nat} (b : By y g) (h : Hc) : m_round_of [.str y] h = .ok (roundD (roundF g (startF g) 500 1 (startF g))) h := by
  rw [m_round_of_ap]
  have hy := b.len
  have l0 := b.l0
  have l1 := b.l1
  obtain ⟨sl, sb⟩ := start_facts l0
  have er : repL [48] ((y.length : Int) - 2) ++ [49] = startF g := by
    rw [repZ _ (by omega)]
    unfold startF
    congr 2
    omega
  have w := round_loop b h 500 1 (startF g) sl sb
  have c3 : -1048576 ≤ (y.length : Int) - 2 ∧ (y.length : Int) - 2 ≤ 16777216 := by omega
  simp (disch := first | assumption | omega | (simp only [List.length_map, List.length_append, List.length_cons, List.length_nil, List.length_take, List.length_drop, List.length_replicate, List.length_range, repL_length, List.length_reverse, List.length_set, rgI_len, Int.toNat_natCast]; omega) | (simp; done) | fail) [-getElem?_pos, b_round_of, cby_ok b h, er]
  rw [show ((1 : Nat) : Int) = 1 from rfl] at w
  rw [w]
  cases roundF g (startF g) 500 1 (startF g) with
  | some j => simp [roundD]
  | none => simp [roundD]
/-- the law's way -/
def lwF (g f : List Nat) : Nat → List Nat × Nat → List Nat × Nat := fun n s => wh (fun s => decide (s.1 ≠ f) && decide (s.2 < 40)) (fun s => (nxt g s.1, s.2 + 1)) n s
def lroundF (g : List Nat) : Option Nat := let s := lwF g (startF g) 40 (nxt g (startF g), 1); if s.1 = startF g then some s.2 else none
def bitsN : Nat → List (List Nat)
  | 0 => [[]]
  | n + 1 => (bitsN n).flatMap fun r => [48 :: r, 49 :: r]
theorem bitsN_mem : ∀ (R : List Nat), Bits R → R ∈ bitsN R.length
  | [], _ => by simp [bitsN]
  | c :: R, hb => by
    have ih := bitsN_mem R fun x hx => hb x (List.mem_cons_of_mem _ hx)
    show c :: R ∈ (bitsN R.length).flatMap _
    rw [List.mem_flatMap]
    refine ⟨R, ih, ?_⟩
    rcases hb c List.mem_cons_self with rfl | rfl <;> simp
def allB : List (List Nat) := (List.range 5).flatMap fun n => bitsN (n + 1)
theorem allB_mem (R : List Nat) (hb : Bits R) (h0 : 1 ≤ R.length) (h1 : R.length ≤ 5) : R ∈ allB := by
  unfold allB
  rw [List.mem_flatMap]
  refine ⟨R.length - 1, by rw [List.mem_range]; omega, ?_⟩
  rw [show R.length - 1 + 1 = R.length by omega]
  exact bitsN_mem R hb
theorem map_at {α β : Type} {f g : α → β} {l : List α} (h : l.map f = l.map g) {x : α} (hx : x ∈ l) : f x = g x := by
  have := List.map_inj_left.mp h
  exact this x hx
theorem round_same (g : List Nat) (hb : Bits g) (h0 : 1 ≤ g.length) (h1 : g.length ≤ 5) : roundF g (startF g) 500 1 (startF g) = lroundF g :=
  map_at (f := fun g => roundF g (startF g) 500 1 (startF g)) (g := lroundF) (l := allB) (by decide +kernel) (allB_mem g hb h0 h1)
/-- numbers out of bits, both ways -/
def numF (T : List Nat) : Int := T.foldl (fun (v : Int) (c : Nat) => 2 * v + ((c : Int) - 48)) 0
theorem num_all (T : List Nat) (h : Hc) (hb : Bits T) (h0 : 1 ≤ T.length) (h1 : T.length ≤ 5) : m_number_in [.str T] h = .ok (.int (numF T)) h :=
  map_at (f := fun T => m_number_in [.str T] h) (g := fun T => R.ok (.int (numF T)) h) (l := allB) (by kernel_rfl) (allB_mem T hb h0 h1)
theorem lnum_all (T : List Nat) (h : Hc) (x0 x1 x2 x3 x4 x5 x6 x7 x8 x9 x10 x11 x12 x13 x14 x15 x16 x17 x18 x19 x20 x21 x22 x23 x24 x25 x26 x27 x28 : Sl) (hb : Bits T) (h0 : 1 ≤ T.length) (h1 : T.length ≤ 5) :
    R.fnL bSumA (R.cons (R.lc (.t [(.n 27), (.n 28)]) tYesM (eBin opMul (eBi bInt (aCons (eLook 28) aNil)) (eCall 1 m__law_power (aCons (eVar 27) aNil))) [x0, x1, x2, x3, x4, x5, x6, x7, x8, x9, x10, x11, x12, x13, x14, x15, x16, x17, x18, x19, x20, x21, x22, x23, x24, x25, x26, x27, x28] (kEnS [.str T.reverse] h)) (fun h => R.ok [] h)) = .ok (.int (numF T)) h :=
  map_at (f := fun T => R.fnL bSumA (R.cons (R.lc (.t [(.n 27), (.n 28)]) tYesM (eBin opMul (eBi bInt (aCons (eLook 28) aNil)) (eCall 1 m__law_power (aCons (eVar 27) aNil))) [x0, x1, x2, x3, x4, x5, x6, x7, x8, x9, x10, x11, x12, x13, x14, x15, x16, x17, x18, x19, x20, x21, x22, x23, x24, x25, x26, x27, x28] (kEnS [.str T.reverse] h)) (fun h => R.ok [] h))) (g := fun T => R.ok (.int (numF T)) h) (l := allB) (by kernel_rfl) (allB_mem T hb h0 h1)
end Z

namespace Z
open PySem PySem.Spec L2
/-! k13, plain: slips unseen, parity, eights -/
def tupI (r : List Int) : D := .tup (r.map D.int)
def lastI (r : List Int) : Option Int := r.getLast?
def longF (w : Nat) (rows : List (List Int)) : List (List Int) := rows.flatMap fun r => ((rgI 0 w).filter fun k => match r.getLast? with
  | none => true
  | some j => decide (j < k)).map fun k => r ++ [k]
def setsG (w : Nat) : Nat → List (List Int) → List (List Int)
  | 0, _ => []
  | n + 1, rows => longF w rows ++ setsG w n (longF w rows)
def setsF (w m : Nat) : List (List Int) := setsG w m [[]]
theorem sets_ok (w m : Int) (h : Hc) (w0 : 1 ≤ w) (w1 : w ≤ 7) (m0 : 1 ≤ m) (m1 : m ≤ 3) : m__law_sets [.int w, .int m] h = .ok (.lst ((setsF w.toNat m.toNat).map tupI)) h ∧ m_some_places [.int w, .int m] h = .ok (.lst ((setsF w.toNat m.toNat).map tupI)) h ∧ (setsF w.toNat m.toNat).length ≤ 100 ∧ (setsF w.toNat m.toNat).all (fun r => (r.map D.int).all flatD) = true := by
  rcases (show w = 1 ∨ w = 2 ∨ w = 3 ∨ w = 4 ∨ w = 5 ∨ w = 6 ∨ w = 7 by omega) with rfl | rfl | rfl | rfl | rfl | rfl | rfl <;> rcases (show m = 1 ∨ m = 2 ∨ m = 3 by omega) with rfl | rfl | rfl <;> exact ⟨by kernel_rfl, by kernel_rfl, by decide +kernel, by kernel_rfl⟩
/-- a row of places as bits -/
def rowT (w : Nat) (r : List Int) : List Nat := (rgI 0 w).map fun k => if anyEq (.int k) (r.map D.int) = true then 49 else 48
theorem rowT_bits (w : Nat) (r : List Int) : Bits (rowT w r) := fun c h => by
  obtain ⟨k, _, rfl⟩ := List.mem_map.mp h
  split <;> simp
theorem rowT_len (w : Nat) (r : List Int) : (rowT w r).length = w := by
  unfold rowT
  rw [List.length_map, rgI_len]
theorem rowT_join (w : Nat) (r : List Int) (h : Hc) (hw : w ≤ 1000) : mJoin (.str []) (.lst ((rgI 0 w).map fun k => D.str [if anyEq (.int k) (r.map D.int) = true then 49 else 48])) h = .ok (.str (rowT w r)) h := by
  have := join_signs (rowT w r) h (by rw [rowT_len]; omega)
  unfold rowT at this ⊢
  rw [List.map_map] at this
  exact this
def unsF (g : List Nat) (w : Nat) (rows : List (List Int)) : List (List Int) := rows.filter fun r => decide (lawR g (rowT w r) = List.replicate g.length 48)
theorem fold_fil2 {α : Type} (p : α → Bool) : ∀ (xs s : List α), xs.foldl (fun s a => if p a = true then s ++ [a] else s) s = s ++ xs.filter p
  | [], s => by simp
  | a :: xs, s => by
    rw [List.foldl_cons, fold_fil2 p xs]
    cases q : p a with
    | true => simp [List.filter_cons, q]
    | false => simp [List.filter_cons, q]
theorem unseen_ok {y g : List Nat} (b : By y g) (w m : Int) (h : Hc) (w0 : 1 ≤ w) (w1 : w ≤ 7) (m0 : 1 ≤ m) (m1 : m ≤ 3) : m_slips_unseen [.int w, .str y, .int m] h = .ok (.tup ((unsF g w.toNat (setsF w.toNat m.toNat)).map tupI)) h := by
  rw [m_slips_unseen_ap]
  obtain ⟨_, e2, rl, fl⟩ := sets_ok w m h w0 w1 m0 m1
  generalize hrows : setsF w.toNat m.toNat = rows at *
  have hy := b.len
  have l0 := b.l0
  have l1 := b.l1
  have er : repL [48] ((y.length : Int) - 1) = List.replicate g.length 48 := by
    rw [repZ _ (by omega)]; congr 1; omega
  have c1 : w ≤ 16 := by omega
  have cw : -(2 ^ 62) ≤ w ∧ w < 2 ^ 62 := by omega
  have c3 : -1048576 ≤ (y.length : Int) - 1 ∧ (y.length : Int) - 1 ≤ 16777216 := by omega
  simp (disch := first | assumption | omega | (simp only [List.length_map, List.length_append, List.length_cons, List.length_nil, List.length_take, List.length_drop, List.length_replicate, List.length_range, repL_length, List.length_reverse, List.length_set, rgI_len, Int.toNat_natCast]; omega) | (simp; done) | fail) [-getElem?_pos, b_slips_unseen, cby_ok b h, w0, c1, m0, m1, e2]
  refine for_eq tupI (fun s : List (List Int) => [.v (.int w), .v (.str y), .v (.int m), .o (.lst (s.map tupI)), .u, .u, .u]) (fun s r => if decide (lawR g (rowT w.toNat r) = List.replicate g.length 48) = true then s ++ [r] else s) (fun j s => s.length ≤ j) rows [] (by simp) (fun j r s e o => ?_) (fun o => ?_)
  · have hr := List.all_eq_true.mp fl r (List.mem_of_getElem? e)
    have hj := (List.getElem?_eq_some_iff.mp e).1
    have al := alone_ok b (rowT w.toNat r) h (by rw [rowT_len]; omega) (rowT_bits _ _)
    have ln := lawR_len l0 (rowT w.toNat r)
    refine ⟨_, rfl, .inl ?_, ?_⟩
    · simp (disch := first | assumption | omega | (simp only [List.length_map, List.length_append, List.length_cons, List.length_nil, List.length_take, List.length_drop, List.length_replicate, List.length_range, repL_length, List.length_reverse, List.length_set, rgI_len, Int.toNat_natCast]; omega) | (simp; done) | fail) [-getElem?_pos, b_slips_unseen_0, sKl, O.kill, tupI]
      rw [lc_eq D.int (fun k => D.str [if anyEq (.int k) (r.map D.int) = true then 49 else 48]) (rgI 0 w.toNat) (by rw [rgI_len]; omega) fun k _ => ⟨_, rfl, by
        cases q : anyEq (.int k) (r.map D.int) with
        | true => simp (disch := first | assumption | omega | (simp only [List.length_map, List.length_append, List.length_cons, List.length_nil, List.length_take, List.length_drop, List.length_replicate, List.length_range, repL_length, List.length_reverse, List.length_set, rgI_len, Int.toNat_natCast]; omega) | (simp; done) | fail) [-getElem?_pos, q]
        | false => simp (disch := first | assumption | omega | (simp only [List.length_map, List.length_append, List.length_cons, List.length_nil, List.length_take, List.length_drop, List.length_replicate, List.length_range, repL_length, List.length_reverse, List.length_set, rgI_len, Int.toNat_natCast]; omega) | (simp; done) | fail) [-getElem?_pos, q]⟩]
      rw [R.bin2_ok, rowT_join _ _ _ (by omega)]
      by_cases z : lawR g (rowT w.toNat r) = List.replicate g.length 48
      · simp (disch := first | assumption | omega | (simp only [List.length_map, List.length_append, List.length_cons, List.length_nil, List.length_take, List.length_drop, List.length_replicate, List.length_range, repL_length, List.length_reverse, List.length_set, rgI_len, Int.toNat_natCast]; omega) | (simp; done) | fail) [-getElem?_pos, al, z, er]
        try rfl
      · simp (disch := first | assumption | omega | (simp only [List.length_map, List.length_append, List.length_cons, List.length_nil, List.length_take, List.length_drop, List.length_replicate, List.length_range, repL_length, List.length_reverse, List.length_set, rgI_len, Int.toNat_natCast]; omega) | (simp; done) | fail) [-getElem?_pos, al, z, er]
    · split
      · rw [List.length_append]; simp; omega
      · omega
  · rw [fold_fil2 (fun r => decide (lawR g (rowT w.toNat r) = List.replicate g.length 48)), List.nil_append]
    have lu : (unsF g w.toNat rows).length ≤ 100 := Nat.le_trans (List.length_filter_le _ _) rl
    show _ = R.ok (D.tup ((unsF g w.toNat rows).map tupI)) h
    unfold unsF at *
    simp (disch := first | assumption | omega | (simp only [List.length_map, List.length_append, List.length_cons, List.length_nil, List.length_take, List.length_drop, List.length_replicate, List.length_range, repL_length, List.length_reverse, List.length_set, rgI_len, Int.toNat_natCast]; omega) | (simp; done) | fail) [-getElem?_pos]
theorem zeros_iff {l : List Nat} (hb : Bits l) : (!decide (49 ∈ l)) = decide (l = List.replicate l.length 48) := by
  rw [Bool.eq_iff_iff]
  simp only [Bool.not_eq_true', decide_eq_false_iff_not, decide_eq_true_eq]
  constructor
  · intro h
    rw [List.eq_replicate_iff]
    exact ⟨rfl, fun c hc => (hb c hc).elim id fun z => absurd (z ▸ hc) h⟩
  · intro h hc
    rw [h] at hc
    exact absurd (List.eq_of_mem_replicate hc) (by decide)
theorem parity_ok (X : List Nat) (h : Hc) (hl : X.length ≤ 100) (hX : Bits X) : m_parity [.str X] h = .ok (.str (numD ((X.count 49 : Nat) % 2))) h := by
  rw [m_parity_ap]
  have : ((X.count 49 : Int).fmod 2) = (X.count 49 : Int) % 2 := Int.fmod_eq_emod_of_nonneg _ (by omega)
  simp (disch := first | assumption | omega | (simp only [List.length_map, List.length_append, List.length_cons, List.length_nil, List.length_take, List.length_drop, List.length_replicate, List.length_range, repL_length, List.length_reverse, List.length_set, rgI_len, Int.toNat_natCast]; omega) | (simp; done) | fail) [-getElem?_pos, b_parity, csum_ok X h (by omega) hX, mCount, this]
/-- eight bits -/
def bits8 (n : Int) : List Nat := (List.range 8).map fun k => (48 + n / 2 ^ (7 - k) % 2).toNat
def r256 : List Int := rgI 0 256
theorem told8 (n : Int) (h : Hc) (h0 : 0 ≤ n) (h1 : n < 256) : m_told_number [.int n, .int 8] h = .ok (.str (bits8 n)) h := by
  have e : r256.map (fun n => m_told_number [.int n, .int 8] h) = r256.map fun n => R.ok (.str (bits8 n)) h := by kernel_rfl
  exact List.map_inj_left.mp e n (by unfold r256; rw [rgI_mem]; omega)
theorem ltold8 (n : Int) (h : Hc) (x0 x1 x2 x3 x4 x5 x6 x7 x8 x9 x10 x11 x12 x13 x14 x15 x16 x17 x18 x19 x21 x22 x23 x24 x25 x26 x27 x28 : Sl) (h0 : 0 ≤ n) (h1 : n < 256) :
    (eM1 mJoin (eC (.str [])) (eLc (.n 27) [27] (iR1 (aCons (eC (.int 8)) aNil)) tYesM (eBi bStr (aCons (eBin opMod (eBin opDiv (eLook 20) (eCall 1 m__law_power (aCons (eBin opSub (eC (.int 7)) (eLook 27)) aNil))) (eC (.int 2))) aNil)))) [x0, x1, x2, x3, x4, x5, x6, x7, x8, x9, x10, x11, x12, x13, x14, x15, x16, x17, x18, x19, .v (.int n), x21, x22, x23, x24, x25, x26, x27, x28] h = .ok (.str (bits8 n)) h := by
  have e : r256.map (fun n : Int => (eM1 mJoin (eC (.str [])) (eLc (.n 27) [27] (iR1 (aCons (eC (.int 8)) aNil)) tYesM (eBi bStr (aCons (eBin opMod (eBin opDiv (eLook 20) (eCall 1 m__law_power (aCons (eBin opSub (eC (.int 7)) (eLook 27)) aNil))) (eC (.int 2))) aNil)))) [x0, x1, x2, x3, x4, x5, x6, x7, x8, x9, x10, x11, x12, x13, x14, x15, x16, x17, x18, x19, .v (.int n), x21, x22, x23, x24, x25, x26, x27, x28] h) = r256.map fun n => R.ok (.str (bits8 n)) h := by kernel_rfl
  exact List.map_inj_left.mp e n (by unfold r256; rw [rgI_mem]; omega)
def eightsF (xs : List Int) : List Nat := (xs.map bits8).flatten
theorem bits8_len (n : Int) : (bits8 n).length = 8 := rfl
theorem eights_len : ∀ xs : List Int, ((xs.map bits8).map List.length).sum = 8 * xs.length
  | [] => rfl
  | x :: xs => by
    rw [List.map_cons, List.map_cons, List.sum_cons, eights_len xs, List.length_cons, bits8_len]
    omega
theorem join8 (xs : List Int) (h : Hc) (hl : xs.length ≤ 400) : mJoin (.str []) (.lst (xs.map fun x => D.str (bits8 x))) h = .ok (.str (eightsF xs)) h := by
  rw [mJoin_ok (ps := xs.map bits8) strs?_map (by rw [eights_len]; omega)]
  rfl
theorem eights_ok (xs : List Int) (h : Hc) (hl : xs.length ≤ 400) (hx : Eights xs) : m_eights_of [.lst (xs.map D.int)] h = .ok (.str (eightsF xs)) h := by
  rw [m_eights_of_ap]
  simp (disch := first | assumption | omega | (simp only [List.length_map, List.length_append, List.length_cons, List.length_nil, List.length_take, List.length_drop, List.length_replicate, List.length_range, repL_length, List.length_reverse, List.length_set, rgI_len, Int.toNat_natCast]; omega) | (simp; done) | fail) [-getElem?_pos, b_eights_of, check8_ok xs h hl hx]
  rw [lc_eq D.int (fun x => .str (bits8 x)) xs (by omega) fun x hm => ⟨_, rfl, by simp [told8 x h (hx x hm).1 (hx x hm).2]⟩]
  rw [R.bin2_ok, join8 xs h hl]
  rfl
end Z

namespace Z
open PySem PySem.Spec L2
theorem plain_true (h : Hc) : m__law_plain [] h = .ok (.bl true) h := by kernel_rfl
end Z

namespace Z
open PySem PySem.Spec L2
/-! k13, plain: the turn, drawn numbers -/
theorem sIf_no {t : TM} {a b : SM} {ρ : Rho} {h h' : Hc} (e : t ρ h = .ok false h') : sIf t a b ρ h = b ρ h' := by rw [sIf_ap, e]; simp
theorem or_no {a b : TM} {ρ : Rho} {h h1 h2 : Hc} (e1 : a ρ h = .ok false h1) (e2 : b ρ h1 = .ok false h2) : tOrM a b ρ h = .ok false h2 := by rw [tOrM_ap, e1]; simpa using e2
theorem seq_nx {s k : SM} {ρ ρ' : Rho} {h h' : Hc} (e : s ρ h = .nx ρ' h') : sSeq s k ρ h = k ρ' h' := by rw [sSeq_ap, e]; simp
theorem kl_nx {l : List Nat} {s : SM} {ρ ρ' : Rho} {h h' : Hc} (e : s ρ h = .nx ρ' h') : sKl l s ρ h = .nx (wipeR ρ' l) h' := by unfold sKl; rw [e]; rfl

theorem nums_ok {h : Hc} (d : Dc h) (x0 x2 x3 x4 x5 x6 x7 x8 x9 x10 x11 x12 x13 x14 x15 x16 x17 x18 x19 x20 x21 x22 x23 x24 x25 x26 x27 x28 : Sl) (n : Nat) (hn : n ≤ 1000) : ∃ (ks : List Int) (h' : Hc), R.lc (.n 27) tYesM (eCall 2 m__law_roll (aCons (eVar 1) (aCons (eC (.int 256)) aNil))) [x0, .v (.ref 0), x2, x3, x4, x5, x6, x7, x8, x9, x10, x11, x12, x13, x14, x15, x16, x17, x18, x19, x20, x21, x22, x23, x24, x25, x26, x27, x28] (.ok ((rgI 0 n).map D.int) h) = .ok (.lst (ks.map D.int)) h' ∧ ks.length = n ∧ Eights ks ∧ Dc h' := by
  obtain ⟨rs, h', e, hl, hr, d'⟩ := lc_draw (t := .n 27) (em := eCall 2 m__law_roll (aCons (eVar 1) (aCons (eC (.int 256)) aNil)))
    (ρ := [x0, .v (.ref 0), x2, x3, x4, x5, x6, x7, x8, x9, x10, x11, x12, x13, x14, x15, x16, x17, x18, x19, x20, x21, x22, x23, x24, x25, x26, x27, x28]) Dc D.int (fun r => 0 ≤ r ∧ r < 256) ((rgI 0 n).map D.int) h d fun dd _ h1 d1 => by
      obtain ⟨b, h3, e3, b0, b1, d3⟩ := roll_ok (m := 256) d1 (by omega) (by omega)
      exact ⟨_, rfl, b, h3, by simp [e3], ⟨b0, by omega⟩, d3⟩
  refine ⟨rs, h', R.lc_of ?_ e, by rw [hl, List.length_map, rgI_len], hr, d'⟩
  rw [List.length_map, rgI_len]
  omega
theorem seg_a0 {h0 : Hc} (d0 : Dc h0) (x0 x2 x3 x4 x5 x6 x7 x8 x9 x10 x11 x12 x13 x14 x15 x16 x17 x18 x19 x20 x21 x22 x23 x24 x25 x26 x27 x28 : Sl) : ∃ (xs ys : List Int) (m : Int) (h1 : Hc), Dc h1 ∧ xs.length ≤ 6 ∧ ys.length ≤ 6 ∧ Eights xs ∧ Eights ys ∧ 1 ≤ m ∧ m ≤ 300 ∧ s_law_0 [x0, .v (.ref 0), x2, x3, x4, x5, x6, x7, x8, x9, x10, x11, x12, x13, x14, x15, x16, x17, x18, x19, x20, x21, x22, x23, x24, x25, x26, x27, x28] h0 = .nx [x0, .v (.ref 0), x2, x3, x4, x5, x6, x7, x8, x9, .v (.lst (xs.map D.int)), .v (.lst (ys.map D.int)), .v (.int m), x13, x14, x15, x16, x17, x18, x19, x20, x21, x22, x23, x24, x25, x26, x27, x28] h1 := by
  obtain ⟨n1, h1, e1, a1, b1, d1⟩ := roll_ok (m := 7) d0 (by omega) (by omega)
  obtain ⟨xs, h2, e2, l2, x2e, d2⟩ := nums_ok d1 x0 x2 x3 x4 x5 x6 x7 x8 x9 x10 x11 x12 x13 x14 x15 x16 x17 x18 x19 x20 x21 x22 x23 x24 x25 x26 .u x28 n1.toNat (by omega)
  obtain ⟨n3, h3, e3, a3, b3, d3⟩ := roll_ok (m := 7) d2 (by omega) (by omega)
  obtain ⟨ys, h4, e4, l4, y4e, d4⟩ := nums_ok d3 x0 x2 x3 x4 x5 x6 x7 x8 x9 x10 x11 x12 x13 x14 x15 x16 x17 x18 x19 x20 x21 x22 x23 x24 x25 x26 .u x28 n3.toNat (by omega)
  obtain ⟨m, h5, e5, a5, b5, d5⟩ := roll_ok (m := 300) d4 (by omega) (by omega)
  refine ⟨xs, ys, 1 + m, h5, d5, by omega, by omega, x2e, y4e, by omega, by omega, ?_⟩
  simp (disch := first | assumption | omega | (simp only [List.length_map, List.length_append, List.length_cons, List.length_nil, List.length_take, List.length_drop, List.length_replicate, List.length_range, repL_length, List.length_reverse, List.length_set, rgI_len, Int.toNat_natCast]; omega) | (simp; done) | fail) [-getElem?_pos, s_law_0, e1]
  rw [e2]
  simp (disch := first | assumption | omega | (simp only [List.length_map, List.length_append, List.length_cons, List.length_nil, List.length_take, List.length_drop, List.length_replicate, List.length_range, repL_length, List.length_reverse, List.length_set, rgI_len, Int.toNat_natCast]; omega) | (simp; done) | fail) [-getElem?_pos, e3]
  rw [e4]
  simp (disch := first | assumption | omega | (simp only [List.length_map, List.length_append, List.length_cons, List.length_nil, List.length_take, List.length_drop, List.length_replicate, List.length_range, repL_length, List.length_reverse, List.length_set, rgI_len, Int.toNat_natCast]; omega) | (simp; done) | fail) [-getElem?_pos, e5]
theorem eights_app {xs ys : List Int} (a : Eights xs) (b : Eights ys) : Eights (xs ++ ys) := fun x h => (List.mem_append.mp h).elim (a x) (b x)
theorem int2D {x y : Int} {h : Hc} (e : x = y) : opNe (.int x) (.int y) h = .ok (.bl false) h := by subst e; simp
theorem pairNe (p : Int × Int) (h : Hc) : opNe (pairD p) (pairD p) h = .ok (.bl false) h := by simp [pairD]
theorem tB_no {em : EM} {ρ : Rho} {h h' : Hc} (e : em ρ h = .ok (.bl false) h') : tB1 em ρ h = .ok false h' := by rw [tB1_ap, e]; rfl
theorem seg_a1 (xs ys : List Int) (m : Int) (h1 : Hc) (lx : xs.length ≤ 6) (ly : ys.length ≤ 6) (ex : Eights xs) (ey : Eights ys) (m0 : 1 ≤ m) (x0 x2 x3 x4 x5 x6 x7 x8 x9 x13 x14 x15 x16 x17 x18 x19 x20 x21 x22 x23 x24 x25 x26 x27 x28 : Sl) : s_law_1 [x0, .v (.ref 0), x2, x3, x4, x5, x6, x7, x8, x9, .v (.lst (xs.map D.int)), .v (.lst (ys.map D.int)), .v (.int m), x13, x14, x15, x16, x17, x18, x19, x20, x21, x22, x23, x24, x25, x26, x27, x28] h1 = .nx [x0, .v (.ref 0), x2, x3, x4, x5, x6, x7, x8, x9, .v (.lst (xs.map D.int)), .u, .v (.int m), x13, x14, x15, x16, x17, x18, x19, x20, x21, x22, x23, x24, x25, x26, x27, x28] h1 := by
  have p1 := plain_ok xs m h1 (by omega) ex m0
  have p2 := two_ok xs m h1 (by omega) ex m0
  have p3 := ltwo_ok xs m h1 m0
  have p4 := two_ok ys m h1 (by omega) ey m0
  have p5 := joined_ok (twoF m xs) (twoF m ys) ys.length m h1 m0 (by omega)
  have p6 := ltwo_ok (xs ++ ys) m h1 m0
  rw [joined_eq m0 xs ys] at p6
  rw [List.map_append] at p6
  have cm : m ≠ 0 := by omega
  refine (kl_nx (ρ' := [x0, .v (.ref 0), x2, x3, x4, x5, x6, x7, x8, x9, .v (.lst (xs.map D.int)), .v (.lst (ys.map D.int)), .v (.int m), x13, x14, x15, x16, x17, x18, x19, x20, x21, x22, x23, x24, x25, x26, x27, x28]) (h' := h1) ?_).trans rfl
  rw [sIf_no (h' := h1)]
  · rfl
  · refine or_no (h1 := h1) (tB_no ?_) (or_no (h1 := h1) (tB_no ?_) (tB_no ?_))
    · simp (disch := first | assumption | omega | (simp only [List.length_map, List.length_append, List.length_cons, List.length_nil, List.length_take, List.length_drop, List.length_replicate, List.length_range, repL_length, List.length_reverse, List.length_set, rgI_len, Int.toNat_natCast]; omega) | (simp; done) | fail) [-getElem?_pos, p1, cm]
    · simp (disch := first | assumption | omega | (simp only [List.length_map, List.length_append, List.length_cons, List.length_nil, List.length_take, List.length_drop, List.length_replicate, List.length_range, repL_length, List.length_reverse, List.length_set, rgI_len, Int.toNat_natCast]; omega) | (simp; done) | fail) [-getElem?_pos, p2, p3, pairNe]
    · simp (disch := first | assumption | omega | (simp only [List.length_map, List.length_append, List.length_cons, List.length_nil, List.length_take, List.length_drop, List.length_replicate, List.length_range, repL_length, List.length_reverse, List.length_set, rgI_len, Int.toNat_natCast]; omega) | (simp; done) | fail) [-getElem?_pos, p2, p4, p5, p6, pairNe]
theorem seg_a {h0 : Hc} (d0 : Dc h0) (x0 x2 x3 x4 x5 x6 x7 x8 x9 x10 x11 x12 x13 x14 x15 x16 x17 x18 x19 x20 x21 x22 x23 x24 x25 x26 x27 x28 : Sl) : ∃ (xs : List Int) (m : Int) (h1 : Hc), Dc h1 ∧ xs.length ≤ 6 ∧ Eights xs ∧ 1 ≤ m ∧ m ≤ 300 ∧ ∀ k : SM, (sSeq s_law_0 (sSeq s_law_1 k)) [x0, .v (.ref 0), x2, x3, x4, x5, x6, x7, x8, x9, x10, x11, x12, x13, x14, x15, x16, x17, x18, x19, x20, x21, x22, x23, x24, x25, x26, x27, x28] h0 = k [x0, .v (.ref 0), x2, x3, x4, x5, x6, x7, x8, x9, .v (.lst (xs.map D.int)), .u, .v (.int m), x13, x14, x15, x16, x17, x18, x19, x20, x21, x22, x23, x24, x25, x26, x27, x28] h1 := by
  obtain ⟨xs, ys, m, h1, d1, lx, ly, ex, ey, m0, m1, e⟩ := seg_a0 d0 x0 x2 x3 x4 x5 x6 x7 x8 x9 x10 x11 x12 x13 x14 x15 x16 x17 x18 x19 x20 x21 x22 x23 x24 x25 x26 x27 x28
  refine ⟨xs, m, h1, d1, lx, ex, m0, m1, fun k => ?_⟩
  rw [seq_nx e, seq_nx (seg_a1 xs ys m h1 lx ly ex ey m0 x0 x2 x3 x4 x5 x6 x7 x8 x9 x13 x14 x15 x16 x17 x18 x19 x20 x21 x22 x23 x24 x25 x26 x27 x28)]
end Z

namespace Z
open PySem PySem.Spec L2
/-! k13, plain: the turn, a number changed -/
def freshF (xs : List Int) (p v : Int) : List Int := xs.take p.toNat ++ [v] ++ xs.drop (p.toNat + 1)
def dueD (xs : List Int) (m p v : Int) : D := if p < xs.length then pairD (twoF m (freshF xs p v)) else .str [83, 117, 109, 69, 114, 114, 111, 114]
theorem due_ne (xs : List Int) (m p v : Int) (h : Hc) : opNe (dueD xs m p v) (dueD xs m p v) h = .ok (.bl false) h := by
  unfold dueD
  split
  · exact pairNe _ _
  · rfl
theorem seg_b0 {h0 : Hc} (d0 : Dc h0) (x0 x2 x3 x4 x5 x6 x7 x8 x9 x10 x11 x12 x13 x14 x15 x16 x17 x18 x19 x20 x21 x22 x23 x24 x25 x26 x27 x28 : Sl) : ∃ (p v : Int) (h1 : Hc), Dc h1 ∧ 0 ≤ p ∧ p < 8 ∧ 0 ≤ v ∧ v < 256 ∧ s_law_2 [x0, .v (.ref 0), x2, x3, x4, x5, x6, x7, x8, x9, x10, x11, x12, x13, x14, x15, x16, x17, x18, x19, x20, x21, x22, x23, x24, x25, x26, x27, x28] h0 = .nx [x0, .v (.ref 0), x2, x3, x4, x5, x6, x7, x8, x9, x10, x11, x12, .v (.int p), .v (.int v), x15, x16, x17, x18, x19, x20, x21, x22, x23, x24, x25, x26, x27, x28] h1 := by
  obtain ⟨p, h1, e1, a1, b1, d1⟩ := roll_ok (m := 8) d0 (by omega) (by omega)
  obtain ⟨v, h2, e2, a2, b2, d2⟩ := roll_ok (m := 256) d1 (by omega) (by omega)
  refine ⟨p, v, h2, d2, a1, b1, a2, b2, ?_⟩
  simp (disch := first | assumption | omega | (simp only [List.length_map, List.length_append, List.length_cons, List.length_nil, List.length_take, List.length_drop, List.length_replicate, List.length_range, repL_length, List.length_reverse, List.length_set, rgI_len, Int.toNat_natCast]; omega) | (simp; done) | fail) [-getElem?_pos, s_law_2, e1, e2]
theorem seg_b1 (xs : List Int) (m p v : Int) (h : Hc) (lx : xs.length ≤ 6) (m0 : 1 ≤ m) (p0 : 0 ≤ p) (p1 : p < 8) (x0 x2 x3 x4 x5 x6 x7 x8 x9 x11 x15 x16 x17 x18 x19 x20 x21 x22 x23 x24 x25 x26 x27 x28 : Sl) : ∀ k : SM, (sSeq s_law_3 (sSeq s_law_4 k)) [x0, .v (.ref 0), x2, x3, x4, x5, x6, x7, x8, x9, .v (.lst (xs.map D.int)), x11, .v (.int m), .v (.int p), .v (.int v), x15, x16, x17, x18, x19, x20, x21, x22, x23, x24, x25, x26, x27, x28] h = k [x0, .v (.ref 0), .u, .v (dueD xs m p v), x4, x5, x6, x7, x8, x9, .v (.lst (xs.map D.int)), x11, .v (.int m), .v (.int p), .v (.int v), x15, x16, x17, x18, x19, x20, x21, x22, x23, x24, x25, x26, x27, x28] h := by
  intro k
  have e1 : cutL (xs.map D.int) none (some p) = (xs.take p.toNat).map D.int := by rw [cutL_hi p0, List.map_take]
  have e2 : cutL (xs.map D.int) (some (p + 1)) none = (xs.drop (p.toNat + 1)).map D.int := by
    rw [cutL_lo (by omega), List.map_drop]
    congr 1
    omega
  have s1 : s_law_3 [x0, .v (.ref 0), x2, x3, x4, x5, x6, x7, x8, x9, .v (.lst (xs.map D.int)), x11, .v (.int m), .v (.int p), .v (.int v), x15, x16, x17, x18, x19, x20, x21, x22, x23, x24, x25, x26, x27, x28] h = .nx [x0, .v (.ref 0), .v (.lst ((freshF xs p v).map D.int)), x3, x4, x5, x6, x7, x8, x9, .v (.lst (xs.map D.int)), x11, .v (.int m), .v (.int p), .v (.int v), x15, x16, x17, x18, x19, x20, x21, x22, x23, x24, x25, x26, x27, x28] h := by
    simp (disch := first | assumption | omega | (simp only [List.length_map, List.length_append, List.length_cons, List.length_nil, List.length_take, List.length_drop, List.length_replicate, List.length_range, repL_length, List.length_reverse, List.length_set, rgI_len, Int.toNat_natCast]; omega) | (simp; done) | fail) [-getElem?_pos, s_law_3, e1, e2, freshF]
  have l2 := ltwo_ok (freshF xs p v) m h m0
  rw [seq_nx s1]
  refine seq_nx ?_
  refine (kl_nx (ρ' := [x0, .v (.ref 0), .v (.lst ((freshF xs p v).map D.int)), .v (dueD xs m p v), x4, x5, x6, x7, x8, x9, .v (.lst (xs.map D.int)), x11, .v (.int m), .v (.int p), .v (.int v), x15, x16, x17, x18, x19, x20, x21, x22, x23, x24, x25, x26, x27, x28]) (h' := h) ?_).trans rfl
  by_cases c : p < xs.length
  · simp (disch := first | assumption | omega | (simp only [List.length_map, List.length_append, List.length_cons, List.length_nil, List.length_take, List.length_drop, List.length_replicate, List.length_range, repL_length, List.length_reverse, List.length_set, rgI_len, Int.toNat_natCast]; omega) | (simp; done) | fail) [-getElem?_pos, c, l2, dueD]
  · simp (disch := first | assumption | omega | (simp only [List.length_map, List.length_append, List.length_cons, List.length_nil, List.length_take, List.length_drop, List.length_replicate, List.length_range, repL_length, List.length_reverse, List.length_set, rgI_len, Int.toNat_natCast]; omega) | (simp; done) | fail) [-getElem?_pos, c, dueD]
theorem seg_b2 (xs : List Int) (m p v : Int) (h : Hc) (lx : xs.length ≤ 6) (ex : Eights xs) (m0 : 1 ≤ m) (p0 : 0 ≤ p) (p1 : p < 8) (v0 : 0 ≤ v) (v1 : v < 256) (x0 x4 x5 x6 x7 x8 x9 x11 x15 x16 x17 x18 x19 x20 x21 x22 x23 x24 x25 x26 x27 x28 : Sl) : s_law_5 [x0, .v (.ref 0), .u, .v (dueD xs m p v), x4, x5, x6, x7, x8, x9, .v (.lst (xs.map D.int)), x11, .v (.int m), .v (.int p), .v (.int v), x15, x16, x17, x18, x19, x20, x21, x22, x23, x24, x25, x26, x27, x28] h = .nx [x0, .v (.ref 0), .u, .u, x4, x5, x6, x7, x8, x9, .u, x11, .u, .u, .u, x15, x16, x17, x18, x19, x20, x21, x22, x23, x24, x25, x26, x27, x28] h := by
  have p2 := two_ok xs m h (by omega) ex m0
  refine (kl_nx (ρ' := [x0, .v (.ref 0), .u, .v (dueD xs m p v), x4, x5, x6, x7, x8, x9, .v (.lst (xs.map D.int)), x11, .v (.int m), .v (.int p), .v (.int v), x15, x16, x17, x18, x19, x20, x21, x22, x23, x24, x25, x26, x27, x28]) (h' := h) ?_).trans rfl
  rw [sIf_no (h' := h)]
  · rfl
  · refine or_no (h1 := h) (tB_no ?_) (tB_no ?_)
    · obtain ⟨old, eo, ho⟩ : ∃ old : Int, atI (xs.map D.int ++ repL [D.int 0] 8) p = some (.int old) ∧ (p < xs.length → xs[p.toNat]? = some old) := by
        rw [atI_pos p0, show repL [D.int 0] 8 = List.replicate 8 (D.int 0) from rfl]
        by_cases c : p.toNat < xs.length
        · refine ⟨xs[p.toNat], ?_, fun _ => List.getElem?_eq_getElem c⟩
          rw [List.getElem?_append_left (by rw [List.length_map]; exact c), List.getElem?_map, List.getElem?_eq_getElem c]
          rfl
        · refine ⟨0, ?_, fun z => by omega⟩
          rw [List.getElem?_append_right (by rw [List.length_map]; omega), List.length_map, List.getElem?_replicate, if_pos (by omega)]
      have ch := changed_ok (twoF m xs) xs.length p old v m h m0 (by omega) p0
      have k : R.told subE [83, 117, 109, 69, 114, 114, 111, 114] (m_changed_sums [pairD (twoF m xs), .int xs.length, .int p, .int old, .int v, .int m] h) = .ok (dueD xs m p v) h := by
        rw [ch]
        unfold dueD freshF
        by_cases c : p < xs.length
        · rw [if_pos c, if_pos c, changed_eq m0 xs p.toNat old v (ho c), Int.toNat_of_nonneg p0]
          rfl
        · rw [if_neg c, if_neg c]
          rfl
      simp (disch := first | assumption | omega | (simp only [List.length_map, List.length_append, List.length_cons, List.length_nil, List.length_take, List.length_drop, List.length_replicate, List.length_range, repL_length, List.length_reverse, List.length_set, rgI_len, Int.toNat_natCast]; omega) | (simp; done) | fail) [-getElem?_pos, p2, eo]
      rw [k, R.bin_ok]
      simp (disch := first | assumption | omega | (simp only [List.length_map, List.length_append, List.length_cons, List.length_nil, List.length_take, List.length_drop, List.length_replicate, List.length_range, repL_length, List.length_reverse, List.length_set, rgI_len, Int.toNat_natCast]; omega) | (simp; done) | fail) [-getElem?_pos, due_ne]
    · simp (disch := first | assumption | omega | (simp only [List.length_map, List.length_append, List.length_cons, List.length_nil, List.length_take, List.length_drop, List.length_replicate, List.length_range, repL_length, List.length_reverse, List.length_set, rgI_len, Int.toNat_natCast]; omega) | (simp; done) | fail) [-getElem?_pos, eights_ok xs h (by omega) ex]
      rw [lc_eq D.int (fun x => .str (bits8 x)) xs (by omega) fun x hm => ⟨_, rfl, ltold8 x h _ _ _ _ _ _ _ _ _ _ _ _ _ _ _ _ _ _ _ _ _ _ _ _ _ _ _ _ (ex x hm).1 (ex x hm).2⟩]
      rw [R.bin2_ok, join8 xs h (by omega)]
      simp
theorem seg_b {h0 : Hc} (d0 : Dc h0) (xs : List Int) (m : Int) (lx : xs.length ≤ 6) (ex : Eights xs) (m0 : 1 ≤ m) (x0 x2 x3 x4 x5 x6 x7 x8 x9 x11 x13 x14 x15 x16 x17 x18 x19 x20 x21 x22 x23 x24 x25 x26 x27 x28 : Sl) : ∃ (h1 : Hc), Dc h1 ∧ ∀ k : SM, (sSeq s_law_2 (sSeq s_law_3 (sSeq s_law_4 (sSeq s_law_5 k)))) [x0, .v (.ref 0), x2, x3, x4, x5, x6, x7, x8, x9, .v (.lst (xs.map D.int)), x11, .v (.int m), x13, x14, x15, x16, x17, x18, x19, x20, x21, x22, x23, x24, x25, x26, x27, x28] h0 = k [x0, .v (.ref 0), .u, .u, x4, x5, x6, x7, x8, x9, .u, x11, .u, .u, .u, x15, x16, x17, x18, x19, x20, x21, x22, x23, x24, x25, x26, x27, x28] h1 := by
  obtain ⟨p, v, h1, d1, p0, p1, v0, v1, e⟩ := seg_b0 d0 x0 x2 x3 x4 x5 x6 x7 x8 x9 (.v (.lst (xs.map D.int))) x11 (.v (.int m)) x13 x14 x15 x16 x17 x18 x19 x20 x21 x22 x23 x24 x25 x26 x27 x28
  refine ⟨h1, d1, fun k => ?_⟩
  rw [seq_nx e, seg_b1 xs m p v h1 lx m0 p0 p1, seq_nx (seg_b2 xs m p v h1 lx ex m0 p0 p1 v0 v1 x0 x4 x5 x6 x7 x8 x9 x11 x15 x16 x17 x18 x19 x20 x21 x22 x23 x24 x25 x26 x27 x28)]
end Z

namespace Z
open PySem PySem.Spec L2
/-! k13, plain: the turn, whole rows -/
theorem ne_no {a b : EM} {ρ : Rho} {h : Hc} {x : D} (e1 : a ρ h = .ok x h) (e2 : b ρ h = .ok x h) (n : opNe x x h = .ok (.bl false) h) : tB1 (eBin opNe a b) ρ h = .ok false h := by
  rw [tB1_ap, eBin_ap, e1, R.bin_ok, e2, R.bin2_ok, n]
  rfl
theorem toldr_ok {y g : List Nat} (b : By y g) (X : List Nat) (h : Hc) (hl : X.length ≤ 50) (hX : Bits X) (l5 : g.length ≤ 5) : m_told_rest [.str X, .str y] h = .ok (.int (numF (lawR g (X ++ List.replicate g.length 48)))) h := by
  rw [m_told_rest_ap]
  have ln := lawR_len b.l0 (X ++ List.replicate g.length 48)
  have l0 := b.l0
  have l1 := b.l1
  have k := num_all (lawR g (X ++ List.replicate g.length 48)) h (lawR_bits (whole_bits hX)) (by omega) (by omega)
  simp (disch := first | assumption | omega | (simp only [List.length_map, List.length_append, List.length_cons, List.length_nil, List.length_take, List.length_drop, List.length_replicate, List.length_range, repL_length, List.length_reverse, List.length_set, rgI_len, Int.toNat_natCast]; omega) | (simp; done) | fail) [-getElem?_pos, b_told_rest, rest_ok b X h (by omega) hX, k]
theorem whole_right {g : List Nat} (X : List Nat) (l0 : 1 ≤ g.length) : rightF g (X ++ lawR g (X ++ List.replicate g.length 48)) = true := by
  have ln := lawR_len l0 (X ++ List.replicate g.length 48)
  unfold rightF
  have e : (X ++ lawR g (X ++ List.replicate g.length 48)).take ((X ++ lawR g (X ++ List.replicate g.length 48)).length - g.length) = X := by
    rw [List.length_append, ln, show X.length + g.length - g.length = X.length by omega, List.take_left]
  rw [e]
  simp
theorem seg_c0 {h0 : Hc} (d0 : Dc h0) (x0 x2 x3 x4 x5 x6 x7 x8 x9 x10 x11 x12 x13 x14 x15 x16 x17 x18 x19 x20 x21 x22 x23 x24 x25 x26 x27 x28 : Sl) : ∃ (y g X : List Nat) (h1 : Hc), Dc h1 ∧ By y g ∧ g.length ≤ 5 ∧ Bits X ∧ X.length ≤ 12 ∧ s_law_6 [x0, .v (.ref 0), x2, x3, x4, x5, x6, x7, x8, x9, x10, x11, x12, x13, x14, x15, x16, x17, x18, x19, x20, x21, x22, x23, x24, x25, x26, x27, x28] h0 = .nx [x0, .v (.ref 0), x2, x3, x4, x5, x6, x7, x8, x9, x10, x11, x12, x13, x14, .v (.str y), .v (.str X), x17, x18, x19, x20, x21, x22, x23, x24, x25, x26, x27, x28] h1 := by
  obtain ⟨g, h1, e1, b1, l1, m1, d1⟩ := bits_ok d0 1 5 (by omega) (by omega) (by omega) (by omega)
  obtain ⟨X, h2, e2, b2, l2, m2, d2⟩ := bits_ok d1 0 12 (by omega) (by omega) (by omega) (by omega)
  refine ⟨49 :: g, g, X, h2, d2, ⟨rfl, b1, by omega, by omega⟩, by omega, b2, by omega, ?_⟩
  simp (disch := first | assumption | omega | (simp only [List.length_map, List.length_append, List.length_cons, List.length_nil, List.length_take, List.length_drop, List.length_replicate, List.length_range, repL_length, List.length_reverse, List.length_set, rgI_len, Int.toNat_natCast]; omega) | (simp; done) | fail) [-getElem?_pos, s_law_6, e1, e2]
theorem seg_c1 {y g X : List Nat} (b : By y g) (h : Hc) (bX : Bits X) (lX : X.length ≤ 12) (x0 x2 x3 x4 x5 x6 x7 x8 x9 x10 x11 x12 x13 x14 x17 x18 x19 x20 x21 x22 x23 x24 x25 x26 x27 x28 : Sl) : s_law_7 [x0, .v (.ref 0), x2, x3, x4, x5, x6, x7, x8, x9, x10, x11, x12, x13, x14, .v (.str y), .v (.str X), x17, x18, x19, x20, x21, x22, x23, x24, x25, x26, x27, x28] h = .nx [x0, .v (.ref 0), x2, x3, x4, x5, x6, x7, x8, x9, x10, x11, x12, x13, x14, .v (.str y), .v (.str X), .v (.str (X ++ lawR g (X ++ List.replicate g.length 48))), .v (.int g.length), x19, x20, x21, x22, x23, x24, x25, x26, x27, x28] h := by
  have w := lwhole_ok b X h (by omega) bX
  have hy := b.len
  have l1 := b.l1
  have e : (y.length : Int) - 1 = g.length := by omega
  simp (disch := first | assumption | omega | (simp only [List.length_map, List.length_append, List.length_cons, List.length_nil, List.length_take, List.length_drop, List.length_replicate, List.length_range, repL_length, List.length_reverse, List.length_set, rgI_len, Int.toNat_natCast]; omega) | (simp; done) | fail) [-getElem?_pos, s_law_7, w, e]
theorem seg_c2 {y g X : List Nat} (b : By y g) (h : Hc) (l5 : g.length ≤ 5) (bX : Bits X) (lX : X.length ≤ 12) (x0 x2 x3 x4 x5 x6 x7 x8 x9 x10 x11 x12 x13 x14 x19 x20 x21 x22 x23 x24 x25 x26 x27 x28 : Sl) : s_law_8 [x0, .v (.ref 0), x2, x3, x4, x5, x6, x7, x8, x9, x10, x11, x12, x13, x14, .v (.str y), .v (.str X), .v (.str (X ++ lawR g (X ++ List.replicate g.length 48))), .v (.int g.length), x19, x20, x21, x22, x23, x24, x25, x26, x27, x28] h = .nx [x0, .v (.ref 0), x2, x3, x4, x5, x6, x7, x8, x9, x10, x11, x12, x13, x14, .v (.str y), .u, .u, .v (.int g.length), x19, x20, x21, x22, x23, x24, x25, x26, x27, x28] h := by
  have l0 := b.l0
  have l1 := b.l1
  have ln := lawR_len l0 (X ++ List.replicate g.length 48)
  have bw := whole_bits (g := g) bX
  have bl := lawR_bits (g := g) bw
  have bW : Bits (X ++ lawR g (X ++ List.replicate g.length 48)) := bX.app bl
  have rr := right_ok b (X ++ lawR g (X ++ List.replicate g.length 48)) h (by rw [List.length_append]; omega) bW
  rw [if_neg (by rw [List.length_append]; omega), whole_right X l0] at rr
  have ed : cutL (X ++ lawR g (X ++ List.replicate g.length 48)) (some (X.length : Int)) none = lawR g (X ++ List.replicate g.length 48) := by
    rw [cutL_lo (by omega), Int.toNat_natCast, List.drop_left]
  refine (kl_nx (ρ' := [x0, .v (.ref 0), x2, x3, x4, x5, x6, x7, x8, x9, x10, x11, x12, x13, x14, .v (.str y), .v (.str X), .v (.str (X ++ lawR g (X ++ List.replicate g.length 48))), .v (.int g.length), x19, x20, x21, x22, x23, x24, x25, x26, x27, x28]) (h' := h) ?_).trans rfl
  rw [sIf_no (h' := h)]
  · rfl
  · refine or_no (h1 := h) ?_ (or_no (h1 := h) ?_ (or_no (h1 := h) ?_ (or_no (h1 := h) ?_ ?_)))
    · refine ne_no (x := .str (X ++ lawR g (X ++ List.replicate g.length 48))) ?_ ?_ (by simp)
      · simp (disch := first | assumption | omega | (simp only [List.length_map, List.length_append, List.length_cons, List.length_nil, List.length_take, List.length_drop, List.length_replicate, List.length_range, repL_length, List.length_reverse, List.length_set, rgI_len, Int.toNat_natCast]; omega) | (simp; done) | fail) [-getElem?_pos, with_ok b X h (by omega) bX]
      · simp (disch := first | assumption | omega | (simp only [List.length_map, List.length_append, List.length_cons, List.length_nil, List.length_take, List.length_drop, List.length_replicate, List.length_range, repL_length, List.length_reverse, List.length_set, rgI_len, Int.toNat_natCast]; omega) | (simp; done) | fail) [-getElem?_pos]
    · refine ne_no (x := .str (lawR g (X ++ List.replicate g.length 48))) ?_ ?_ (by simp)
      · simp (disch := first | assumption | omega | (simp only [List.length_map, List.length_append, List.length_cons, List.length_nil, List.length_take, List.length_drop, List.length_replicate, List.length_range, repL_length, List.length_reverse, List.length_set, rgI_len, Int.toNat_natCast]; omega) | (simp; done) | fail) [-getElem?_pos, rest_ok b X h (by omega) bX]
      · simp (disch := first | assumption | omega | (simp only [List.length_map, List.length_append, List.length_cons, List.length_nil, List.length_take, List.length_drop, List.length_replicate, List.length_range, repL_length, List.length_reverse, List.length_set, rgI_len, Int.toNat_natCast]; omega) | (simp; done) | fail) [-getElem?_pos, ed]
    · simp (disch := first | assumption | omega | (simp only [List.length_map, List.length_append, List.length_cons, List.length_nil, List.length_take, List.length_drop, List.length_replicate, List.length_range, repL_length, List.length_reverse, List.length_set, rgI_len, Int.toNat_natCast]; omega) | (simp; done) | fail) [-getElem?_pos, rr]
    · refine ne_no (x := .str (numD ((X.count 49 : Nat) % 2))) ?_ ?_ (by simp)
      · simp (disch := first | assumption | omega | (simp only [List.length_map, List.length_append, List.length_cons, List.length_nil, List.length_take, List.length_drop, List.length_replicate, List.length_range, repL_length, List.length_reverse, List.length_set, rgI_len, Int.toNat_natCast]; omega) | (simp; done) | fail) [-getElem?_pos, parity_ok X h (by omega) bX]
      · have : ((X.count 49 : Int).fmod 2) = (X.count 49 : Int) % 2 := Int.fmod_eq_emod_of_nonneg _ (by omega)
        simp (disch := first | assumption | omega | (simp only [List.length_map, List.length_append, List.length_cons, List.length_nil, List.length_take, List.length_drop, List.length_replicate, List.length_range, repL_length, List.length_reverse, List.length_set, rgI_len, Int.toNat_natCast]; omega) | (simp; done) | fail) [-getElem?_pos, mCount, this]
    · refine ne_no (x := .int (numF (lawR g (X ++ List.replicate g.length 48)))) ?_ ?_ (by simp)
      · simp (disch := first | assumption | omega | (simp only [List.length_map, List.length_append, List.length_cons, List.length_nil, List.length_take, List.length_drop, List.length_replicate, List.length_range, repL_length, List.length_reverse, List.length_set, rgI_len, Int.toNat_natCast]; omega) | (simp; done) | fail) [-getElem?_pos, toldr_ok b X h (by omega) bX l5]
      · generalize lawR g (X ++ List.replicate g.length 48) = T at *
        have q := lnum_all T h x0 (.v (.ref 0)) x2 x3 x4 x5 x6 x7 x8 x9 x10 x11 x12 x13 x14 (.v (.str y)) (.v (.str X)) (.v (.str (X ++ T))) (.v (.int g.length)) x19 x20 x21 x22 x23 x24 x25 x26 .u .u bl (by omega) (by omega)
        have ap : ∀ (a : AM) (ρ : Rho) (h : Hc), iEnSt a ρ h = (a ρ h).bind kEnS := fun _ _ _ => rfl
        have ev : ∀ (a : EM) (ρ : Rho) (h : Hc), eRev a ρ h = (a ρ h).bind revD := fun _ _ _ => rfl
        have kr : ∀ (l : List Nat) (h : Hc), l.length ≤ 16777216 → revD (.str l) h = .ok (.str l.reverse) h := fun _ _ z => if_pos z
        simp (disch := first | assumption | omega | (simp only [List.length_map, List.length_append, List.length_cons, List.length_nil, List.length_take, List.length_drop, List.length_replicate, List.length_range, repL_length, List.length_reverse, List.length_set, rgI_len, Int.toNat_natCast]; omega) | (simp; done) | fail) [-getElem?_pos, ed, ap, ev, kr]
        exact q
theorem seg_c {h0 : Hc} (d0 : Dc h0) (x0 x2 x3 x4 x5 x6 x7 x8 x9 x10 x11 x12 x13 x14 x15 x16 x17 x18 x19 x20 x21 x22 x23 x24 x25 x26 x27 x28 : Sl) : ∃ (y g : List Nat) (h1 : Hc), Dc h1 ∧ By y g ∧ g.length ≤ 5 ∧ ∀ k : SM, (sSeq s_law_6 (sSeq s_law_7 (sSeq s_law_8 k))) [x0, .v (.ref 0), x2, x3, x4, x5, x6, x7, x8, x9, x10, x11, x12, x13, x14, x15, x16, x17, x18, x19, x20, x21, x22, x23, x24, x25, x26, x27, x28] h0 = k [x0, .v (.ref 0), x2, x3, x4, x5, x6, x7, x8, x9, x10, x11, x12, x13, x14, .v (.str y), .u, .u, .v (.int g.length), x19, x20, x21, x22, x23, x24, x25, x26, x27, x28] h1 := by
  obtain ⟨y, g, X, h1, d1, b, l5, bX, lX, e⟩ := seg_c0 d0 x0 x2 x3 x4 x5 x6 x7 x8 x9 x10 x11 x12 x13 x14 x15 x16 x17 x18 x19 x20 x21 x22 x23 x24 x25 x26 x27 x28
  refine ⟨y, g, h1, d1, b, l5, fun k => ?_⟩
  rw [seq_nx e, seq_nx (seg_c1 b h1 bX lX x0 x2 x3 x4 x5 x6 x7 x8 x9 x10 x11 x12 x13 x14 x17 x18 x19 x20 x21 x22 x23 x24 x25 x26 x27 x28), seq_nx (seg_c2 b h1 l5 bX lX x0 x2 x3 x4 x5 x6 x7 x8 x9 x10 x11 x12 x13 x14 x19 x20 x21 x22 x23 x24 x25 x26 x27 x28)]
end Z

namespace Z
open PySem PySem.Spec L2
/-! k13, plain: the turn, one slip -/
def rgtF (g X : List Nat) : Bool := decide (g.length ≤ X.length) && rightF g X
theorem seg_d0 {y g : List Nat} {h0 : Hc} (d0 : Dc h0) (x0 x2 x3 x4 x5 x6 x7 x8 x9 x10 x11 x12 x13 x14 x16 x17 x19 x20 x21 x22 x23 x24 x25 x26 x27 x28 : Sl) : ∃ (X : List Nat) (h1 : Hc), Dc h1 ∧ Bits X ∧ X.length ≤ 12 ∧ s_law_9 [x0, .v (.ref 0), x2, x3, x4, x5, x6, x7, x8, x9, x10, x11, x12, x13, x14, .v (.str y), x16, x17, .v (.int g.length), x19, x20, x21, x22, x23, x24, x25, x26, x27, x28] h0 = .nx [x0, .v (.ref 0), x2, x3, .v (.str X), x5, x6, x7, x8, x9, x10, x11, x12, x13, x14, .v (.str y), x16, x17, .v (.int g.length), x19, x20, x21, x22, x23, x24, x25, x26, x27, x28] h1 := by
  obtain ⟨X, h2, e2, b2, l2, m2, d2⟩ := bits_ok d0 0 12 (by omega) (by omega) (by omega) (by omega)
  refine ⟨X, h2, d2, b2, by omega, ?_⟩
  simp (disch := first | assumption | omega | (simp only [List.length_map, List.length_append, List.length_cons, List.length_nil, List.length_take, List.length_drop, List.length_replicate, List.length_range, repL_length, List.length_reverse, List.length_set, rgI_len, Int.toNat_natCast]; omega) | (simp; done) | fail) [-getElem?_pos, s_law_9, e2]
theorem cut_of {g X : List Nat} (c : g.length ≤ X.length) : cutL X none (some ((X.length : Int) - g.length)) = X.take (X.length - g.length) := by
  rw [cutL_hi (by omega)]
  congr 1
  omega
theorem seg_d1 {y g X : List Nat} (b : By y g) (h : Hc) (bX : Bits X) (lX : X.length ≤ 12) (x0 x2 x3 x5 x6 x7 x8 x9 x10 x11 x12 x13 x14 x16 x17 x19 x20 x21 x22 x23 x24 x25 x26 x27 x28 : Sl) : s_law_10 [x0, .v (.ref 0), x2, x3, .v (.str X), x5, x6, x7, x8, x9, x10, x11, x12, x13, x14, .v (.str y), x16, x17, .v (.int g.length), x19, x20, x21, x22, x23, x24, x25, x26, x27, x28] h = .nx [x0, .v (.ref 0), x2, x3, .v (.str X), .v (.bl (rgtF g X)), x6, x7, x8, x9, x10, x11, x12, x13, x14, .v (.str y), x16, x17, .v (.int g.length), x19, x20, x21, x22, x23, x24, x25, x26, x27, x28] h := by
  have l0 := b.l0
  have l1 := b.l1
  by_cases c : g.length ≤ X.length
  · have w := lwhole_ok b (X.take (X.length - g.length)) h (by rw [List.length_take]; omega) (bX.take _)
    have ed := cut_of c
    simp (disch := first | assumption | omega | (simp only [List.length_map, List.length_append, List.length_cons, List.length_nil, List.length_take, List.length_drop, List.length_replicate, List.length_range, repL_length, List.length_reverse, List.length_set, rgI_len, Int.toNat_natCast]; omega) | (simp; done) | fail) [-getElem?_pos, s_law_10, rgtF, c, ed, w, rightF]
  · have c1 : ¬ (g.length : Int) ≤ X.length := by omega
    simp (disch := first | assumption | omega | (simp only [List.length_map, List.length_append, List.length_cons, List.length_nil, List.length_take, List.length_drop, List.length_replicate, List.length_range, repL_length, List.length_reverse, List.length_set, rgI_len, Int.toNat_natCast]; omega) | (simp; done) | fail) [-getElem?_pos, s_law_10, rgtF, c, c1]
theorem seg_d2 {y g X : List Nat} (b : By y g) (h : Hc) (bX : Bits X) (lX : X.length ≤ 12) (x0 x2 x3 x6 x7 x8 x9 x10 x11 x12 x13 x14 x16 x17 x19 x20 x21 x22 x23 x24 x25 x26 x27 x28 : Sl) : s_law_11 [x0, .v (.ref 0), x2, x3, .v (.str X), .v (.bl (rgtF g X)), x6, x7, x8, x9, x10, x11, x12, x13, x14, .v (.str y), x16, x17, .v (.int g.length), x19, x20, x21, x22, x23, x24, x25, x26, x27, x28] h = .nx [x0, .v (.ref 0), x2, x3, .v (.str X), .v (.bl (rgtF g X)), x6, x7, x8, x9, x10, x11, x12, x13, x14, .v (.str y), x16, x17, .v (.int g.length), x19, x20, x21, x22, x23, x24, x25, x26, x27, x28] h := by
  have l0 := b.l0
  have l1 := b.l1
  have rr := right_ok b X h (by omega) bX
  have al := alone_ok b X h (by omega) bX
  have lr := lrest_ok b X h (by omega) bX
  unfold s_law_11
  rw [sIf_no (h' := h)]
  · rfl
  · refine or_no (h1 := h) ?_ ?_
    · by_cases c : g.length ≤ X.length
      · rw [if_neg (by omega)] at rr
        refine ne_no (x := .bl (rightF g X)) ?_ ?_ (by cases rightF g X <;> rfl)
        · simp (disch := first | assumption | omega | (simp only [List.length_map, List.length_append, List.length_cons, List.length_nil, List.length_take, List.length_drop, List.length_replicate, List.length_range, repL_length, List.length_reverse, List.length_set, rgI_len, Int.toNat_natCast]; omega) | (simp; done) | fail) [-getElem?_pos, rr]
          try rfl
        · simp (disch := first | assumption | omega | (simp only [List.length_map, List.length_append, List.length_cons, List.length_nil, List.length_take, List.length_drop, List.length_replicate, List.length_range, repL_length, List.length_reverse, List.length_set, rgI_len, Int.toNat_natCast]; omega) | (simp; done) | fail) [-getElem?_pos, c, rgtF]
      · rw [if_pos (by omega)] at rr
        refine ne_no (x := .str [83, 117, 109, 69, 114, 114, 111, 114]) ?_ ?_ rfl
        · simp (disch := first | assumption | omega | (simp only [List.length_map, List.length_append, List.length_cons, List.length_nil, List.length_take, List.length_drop, List.length_replicate, List.length_range, repL_length, List.length_reverse, List.length_set, rgI_len, Int.toNat_natCast]; omega) | (simp; done) | fail) [-getElem?_pos, rr]
          try rfl
        · have c1 : ¬ (g.length : Int) ≤ X.length := by omega
          simp (disch := first | assumption | omega | (simp only [List.length_map, List.length_append, List.length_cons, List.length_nil, List.length_take, List.length_drop, List.length_replicate, List.length_range, repL_length, List.length_reverse, List.length_set, rgI_len, Int.toNat_natCast]; omega) | (simp; done) | fail) [-getElem?_pos, c, c1]
    · refine ne_no (x := .str (lawR g X)) ?_ ?_ (by simp)
      · simp (disch := first | assumption | omega | (simp only [List.length_map, List.length_append, List.length_cons, List.length_nil, List.length_take, List.length_drop, List.length_replicate, List.length_range, repL_length, List.length_reverse, List.length_set, rgI_len, Int.toNat_natCast]; omega) | (simp; done) | fail) [-getElem?_pos, al]
      · simp (disch := first | assumption | omega | (simp only [List.length_map, List.length_append, List.length_cons, List.length_nil, List.length_take, List.length_drop, List.length_replicate, List.length_range, repL_length, List.length_reverse, List.length_set, rgI_len, Int.toNat_natCast]; omega) | (simp; done) | fail) [-getElem?_pos, lr]
theorem slipD_ne (l : List Int) (h : Hc) : opNe (slipD l) (slipD l) h = .ok (.bl false) h := by
  unfold slipD
  split
  · simp
  · rfl
theorem slipD_one (l : List Int) : (l.length = 1 → ∃ k, l = [k] ∧ slipD l = .int k) ∧ (l.length ≠ 1 → slipD l = .non) := by
  match l with
  | [] => exact ⟨fun h => by simp at h, fun _ => rfl⟩
  | [k] => exact ⟨fun _ => ⟨k, rfl, rfl⟩, fun h => by simp at h⟩
  | _ :: _ :: _ => exact ⟨fun h => by simp at h, fun _ => rfl⟩
theorem seg_d3 {y g X : List Nat} (b : By y g) (h : Hc) (bX : Bits X) (lX : X.length ≤ 12) (x0 x2 x3 x6 x7 x8 x9 x10 x11 x12 x13 x14 x16 x17 x19 x20 x21 x22 x23 x24 x25 x26 x27 x28 : Sl) : s_law_12 [x0, .v (.ref 0), x2, x3, .v (.str X), .v (.bl (rgtF g X)), x6, x7, x8, x9, x10, x11, x12, x13, x14, .v (.str y), x16, x17, .v (.int g.length), x19, x20, x21, x22, x23, x24, x25, x26, x27, x28] h = .nx [x0, .v (.ref 0), x2, x3, .v (.str X), .u, x6, x7, x8, x9, x10, x11, x12, x13, x14, .v (.str y), x16, x17, .v (.int g.length), .u, x20, x21, x22, x23, x24, x25, x26, x27, x28] h := by
  have l0 := b.l0
  have l1 := b.l1
  unfold s_law_12
  by_cases c : g.length ≤ X.length
  · have so := slip_ok b X h (by omega) bX c
    have fil : R.lc (.n 27) (tB1 (eBin opEq (eCall 2 m__law_whole (aCons (eSl (eCall 2 m__law_turn (aCons (eVar 4) (aCons (eVar 27) aNil))) pNo (pAt (eBin opSub (eBi bLen (aCons (eLook 4) aNil)) (eLook 18)))) (aCons (eVar 15) aNil))) (eCall 2 m__law_turn (aCons (eVar 4) (aCons (eVar 27) aNil))))) (eVar 27) [x0, .v (.ref 0), x2, x3, .v (.str X), .v (.bl (rgtF g X)), x6, x7, x8, x9, x10, x11, x12, x13, x14, .v (.str y), x16, x17, .v (.int g.length), x19, x20, x21, x22, x23, x24, x25, x26, .u, x28] (.ok ((rgI 0 X.length).map D.int) h) = .ok (.lst ((hitsF g X).map D.int)) h := by
      refine lc_fil D.int D.int (fun k : Int => rightF g (turnF X k.toNat)) (rgI 0 X.length) (by rw [rgI_len]; omega) fun k hk => ?_
      rw [rgI_mem] at hk
      obtain ⟨n, rfl⟩ : ∃ n : Nat, k = n := ⟨k.toNat, by omega⟩
      have hn : n < X.length := by omega
      have lt := lturn_ok X n h (by omega) bX hn
      have tl := turn_len hn
      have tb := turn_bits bX n
      have w := lwhole_ok b ((turnF X n).take ((turnF X n).length - g.length)) h (by rw [List.length_take]; omega) (tb.take _)
      have ed := cut_of (g := g) (X := turnF X n) (by omega)
      rw [tl] at ed w
      refine ⟨_, rfl, ?_, fun _ => ?_⟩
      · simp (disch := first | assumption | omega | (simp only [List.length_map, List.length_append, List.length_cons, List.length_nil, List.length_take, List.length_drop, List.length_replicate, List.length_range, repL_length, List.length_reverse, List.length_set, rgI_len, Int.toNat_natCast]; omega) | (simp; done) | fail) [-getElem?_pos, lt, ed, w, rightF, tl]
      · simp (disch := first | assumption | omega | (simp only [List.length_map, List.length_append, List.length_cons, List.length_nil, List.length_take, List.length_drop, List.length_replicate, List.length_range, repL_length, List.length_reverse, List.length_set, rgI_len, Int.toNat_natCast]; omega) | (simp; done) | fail) [-getElem?_pos]
    have hlen : (hitsF g X).length ≤ X.length := Nat.le_trans (List.length_filter_le _ _) (by rw [rgI_len]; omega)
    have s1 : (sSet 19 (eLc (.n 27) [27] (iR1 (aCons (eBi bLen (aCons (eLook 4) aNil)) aNil)) (tB1 (eBin opEq (eCall 2 m__law_whole (aCons (eSl (eCall 2 m__law_turn (aCons (eVar 4) (aCons (eVar 27) aNil))) pNo (pAt (eBin opSub (eBi bLen (aCons (eLook 4) aNil)) (eLook 18)))) (aCons (eVar 15) aNil))) (eCall 2 m__law_turn (aCons (eVar 4) (aCons (eVar 27) aNil))))) (eVar 27))) [x0, .v (.ref 0), x2, x3, .v (.str X), .v (.bl (rgtF g X)), x6, x7, x8, x9, x10, x11, x12, x13, x14, .v (.str y), x16, x17, .v (.int g.length), x19, x20, x21, x22, x23, x24, x25, x26, x27, x28] h = .nx [x0, .v (.ref 0), x2, x3, .v (.str X), .v (.bl (rgtF g X)), x6, x7, x8, x9, x10, x11, x12, x13, x14, .v (.str y), x16, x17, .v (.int g.length), .v (.lst ((hitsF g X).map D.int)), x20, x21, x22, x23, x24, x25, x26, x27, x28] h := by
      simp (disch := first | assumption | omega | (simp only [List.length_map, List.length_append, List.length_cons, List.length_nil, List.length_take, List.length_drop, List.length_replicate, List.length_range, repL_length, List.length_reverse, List.length_set, rgI_len, Int.toNat_natCast]; omega) | (simp; done) | fail) [-getElem?_pos]
      rw [fil]
      simp (disch := first | assumption | omega | (simp only [List.length_map, List.length_append, List.length_cons, List.length_nil, List.length_take, List.length_drop, List.length_replicate, List.length_range, repL_length, List.length_reverse, List.length_set, rgI_len, Int.toNat_natCast]; omega) | (simp; done) | fail) [-getElem?_pos]
    refine (kl_nx (ρ' := [x0, .v (.ref 0), x2, x3, .v (.str X), .u, x6, x7, x8, x9, x10, x11, x12, x13, x14, .v (.str y), x16, x17, .v (.int g.length), .u, x20, x21, x22, x23, x24, x25, x26, x27, x28]) (h' := h) (kl_nx (ρ' := [x0, .v (.ref 0), x2, x3, .v (.str X), .u, x6, x7, x8, x9, x10, x11, x12, x13, x14, .v (.str y), x16, x17, .v (.int g.length), .u, x20, x21, x22, x23, x24, x25, x26, x27, x28]) (h' := h) ?_ |>.trans rfl)).trans rfl
    rw [sIf_ap]
    have t1 : (tB1 (eBin opGe (eBi bLen (aCons (eLook 4) aNil)) (eLook 18))) [x0, .v (.ref 0), x2, x3, .v (.str X), .v (.bl (rgtF g X)), x6, x7, x8, x9, x10, x11, x12, x13, x14, .v (.str y), x16, x17, .v (.int g.length), x19, x20, x21, x22, x23, x24, x25, x26, x27, x28] h = .ok true h := by
      simp (disch := first | assumption | omega | (simp only [List.length_map, List.length_append, List.length_cons, List.length_nil, List.length_take, List.length_drop, List.length_replicate, List.length_range, repL_length, List.length_reverse, List.length_set, rgI_len, Int.toNat_natCast]; omega) | (simp; done) | fail) [-getElem?_pos, c]
    rw [t1]
    show (sSeq _ _) [x0, .v (.ref 0), x2, x3, .v (.str X), .v (.bl (rgtF g X)), x6, x7, x8, x9, x10, x11, x12, x13, x14, .v (.str y), x16, x17, .v (.int g.length), x19, x20, x21, x22, x23, x24, x25, x26, x27, x28] h = _
    rw [seq_nx s1]
    refine (kl_nx (ρ' := [x0, .v (.ref 0), x2, x3, .v (.str X), .v (.bl (rgtF g X)), x6, x7, x8, x9, x10, x11, x12, x13, x14, .v (.str y), x16, x17, .v (.int g.length), .v (.lst ((hitsF g X).map D.int)), x20, x21, x22, x23, x24, x25, x26, x27, x28]) (h' := h) ?_).trans rfl
    rw [sIf_no (h' := h)]
    · rfl
    · by_cases r : rightF g X = true
      · rw [if_pos r] at so
        refine ne_no (x := .int (-1)) ?_ ?_ (by simp)
        · simp (disch := first | assumption | omega | (simp only [List.length_map, List.length_append, List.length_cons, List.length_nil, List.length_take, List.length_drop, List.length_replicate, List.length_range, repL_length, List.length_reverse, List.length_set, rgI_len, Int.toNat_natCast]; omega) | (simp; done) | fail) [-getElem?_pos, so]
        · simp (disch := first | assumption | omega | (simp only [List.length_map, List.length_append, List.length_cons, List.length_nil, List.length_take, List.length_drop, List.length_replicate, List.length_range, repL_length, List.length_reverse, List.length_set, rgI_len, Int.toNat_natCast]; omega) | (simp; done) | fail) [-getElem?_pos, rgtF, c, r]
      · rw [if_neg r] at so
        refine ne_no (x := slipD (hitsF g X)) ?_ ?_ (slipD_ne _ h)
        · simp (disch := first | assumption | omega | (simp only [List.length_map, List.length_append, List.length_cons, List.length_nil, List.length_take, List.length_drop, List.length_replicate, List.length_range, repL_length, List.length_reverse, List.length_set, rgI_len, Int.toNat_natCast]; omega) | (simp; done) | fail) [-getElem?_pos, so]
        · obtain ⟨q1, q2⟩ := slipD_one (hitsF g X)
          have r' : rightF g X = false := by simpa using r
          by_cases z : (hitsF g X).length = 1
          · obtain ⟨k, e1, e2⟩ := q1 z
            rw [e2, e1]
            simp (disch := first | assumption | omega | (simp only [List.length_map, List.length_append, List.length_cons, List.length_nil, List.length_take, List.length_drop, List.length_replicate, List.length_range, repL_length, List.length_reverse, List.length_set, rgI_len, Int.toNat_natCast]; omega) | (simp; done) | fail) [-getElem?_pos, rgtF, c, r']
          · have z' : ¬ ((hitsF g X).length : Int) = 1 := by omega
            rw [q2 z]
            simp (disch := first | assumption | omega | (simp only [List.length_map, List.length_append, List.length_cons, List.length_nil, List.length_take, List.length_drop, List.length_replicate, List.length_range, repL_length, List.length_reverse, List.length_set, rgI_len, Int.toNat_natCast]; omega) | (simp; done) | fail) [-getElem?_pos, rgtF, c, r', z, z']
  · have c1 : ¬ (g.length : Int) ≤ X.length := by omega
    refine (kl_nx (ρ' := [x0, .v (.ref 0), x2, x3, .v (.str X), .v (.bl (rgtF g X)), x6, x7, x8, x9, x10, x11, x12, x13, x14, .v (.str y), x16, x17, .v (.int g.length), .u, x20, x21, x22, x23, x24, x25, x26, x27, x28]) (h' := h) (kl_nx (ρ' := [x0, .v (.ref 0), x2, x3, .v (.str X), .v (.bl (rgtF g X)), x6, x7, x8, x9, x10, x11, x12, x13, x14, .v (.str y), x16, x17, .v (.int g.length), x19, x20, x21, x22, x23, x24, x25, x26, x27, x28]) (h' := h) ?_ |>.trans rfl)).trans rfl
    rw [sIf_no (h' := h)]
    · rfl
    · simp (disch := first | assumption | omega | (simp only [List.length_map, List.length_append, List.length_cons, List.length_nil, List.length_take, List.length_drop, List.length_replicate, List.length_range, repL_length, List.length_reverse, List.length_set, rgI_len, Int.toNat_natCast]; omega) | (simp; done) | fail) [-getElem?_pos, c1]
theorem seg_d {y g : List Nat} (b : By y g) {h0 : Hc} (d0 : Dc h0) (x0 x2 x3 x4 x5 x6 x7 x8 x9 x10 x11 x12 x13 x14 x16 x17 x19 x20 x21 x22 x23 x24 x25 x26 x27 x28 : Sl) : ∃ (X : List Nat) (h1 : Hc), Dc h1 ∧ Bits X ∧ X.length ≤ 12 ∧ ∀ k : SM, (sSeq s_law_9 (sSeq s_law_10 (sSeq s_law_11 (sSeq s_law_12 k)))) [x0, .v (.ref 0), x2, x3, x4, x5, x6, x7, x8, x9, x10, x11, x12, x13, x14, .v (.str y), x16, x17, .v (.int g.length), x19, x20, x21, x22, x23, x24, x25, x26, x27, x28] h0 = k [x0, .v (.ref 0), x2, x3, .v (.str X), .u, x6, x7, x8, x9, x10, x11, x12, x13, x14, .v (.str y), x16, x17, .v (.int g.length), .u, x20, x21, x22, x23, x24, x25, x26, x27, x28] h1 := by
  obtain ⟨X, h1, d1, bX, lX, e⟩ := seg_d0 (y := y) (g := g) d0 x0 x2 x3 x4 x5 x6 x7 x8 x9 x10 x11 x12 x13 x14 x16 x17 x19 x20 x21 x22 x23 x24 x25 x26 x27 x28
  refine ⟨X, h1, d1, bX, lX, fun k => ?_⟩
  rw [seq_nx e, seq_nx (seg_d1 b h1 bX lX x0 x2 x3 x5 x6 x7 x8 x9 x10 x11 x12 x13 x14 x16 x17 x19 x20 x21 x22 x23 x24 x25 x26 x27 x28), seq_nx (seg_d2 b h1 bX lX x0 x2 x3 x6 x7 x8 x9 x10 x11 x12 x13 x14 x16 x17 x19 x20 x21 x22 x23 x24 x25 x26 x27 x28), seq_nx (seg_d3 b h1 bX lX x0 x2 x3 x6 x7 x8 x9 x10 x11 x12 x13 x14 x16 x17 x19 x20 x21 x22 x23 x24 x25 x26 x27 x28)]
end Z

namespace Z
open PySem PySem.Spec L2
/-! k13, plain: the turn, sums of rows -/
def lngF (O Q : List Nat) : Nat := max O.length Q.length
def padF (n : Nat) (T : List Nat) : List Nat := List.replicate (n - T.length) 48 ++ T
theorem pad_len {n : Nat} {T : List Nat} (h : T.length ≤ n) : (padF n T).length = n := by
  unfold padF
  rw [List.length_append, List.length_replicate]
  omega
theorem pad_bits {n : Nat} {T : List Nat} (h : Bits T) : Bits (padF n T) := (bits_zero _).app h
theorem seg_e0 {y O : List Nat} {h0 : Hc} (d0 : Dc h0) (x0 x2 x3 x5 x6 x7 x8 x9 x10 x11 x12 x13 x14 x16 x17 x18 x19 x20 x21 x22 x23 x24 x25 x26 x27 x28 : Sl) : ∃ (Q : List Nat) (h1 : Hc), Dc h1 ∧ Bits Q ∧ Q.length ≤ 12 ∧ s_law_13 [x0, .v (.ref 0), x2, x3, .v (.str O), x5, x6, x7, x8, x9, x10, x11, x12, x13, x14, .v (.str y), x16, x17, x18, x19, x20, x21, x22, x23, x24, x25, x26, x27, x28] h0 = .nx [x0, .v (.ref 0), x2, x3, .v (.str O), x5, .v (.str Q), x7, x8, x9, x10, x11, x12, x13, x14, .v (.str y), x16, x17, x18, x19, x20, x21, x22, x23, x24, x25, x26, x27, x28] h1 := by
  obtain ⟨Q, h2, e2, b2, l2, m2, d2⟩ := bits_ok d0 0 12 (by omega) (by omega) (by omega) (by omega)
  refine ⟨Q, h2, d2, b2, by omega, ?_⟩
  simp (disch := first | assumption | omega | (simp only [List.length_map, List.length_append, List.length_cons, List.length_nil, List.length_take, List.length_drop, List.length_replicate, List.length_range, repL_length, List.length_reverse, List.length_set, rgI_len, Int.toNat_natCast]; omega) | (simp; done) | fail) [-getElem?_pos, s_law_13, e2]
theorem seg_e1 {y O Q : List Nat} (h : Hc) (lO : O.length ≤ 12) (lQ : Q.length ≤ 12) (x0 x2 x3 x5 x7 x8 x9 x10 x11 x12 x13 x14 x16 x17 x18 x19 x20 x21 x22 x23 x24 x25 x26 x27 x28 : Sl) : s_law_14 [x0, .v (.ref 0), x2, x3, .v (.str O), x5, .v (.str Q), x7, x8, x9, x10, x11, x12, x13, x14, .v (.str y), x16, x17, x18, x19, x20, x21, x22, x23, x24, x25, x26, x27, x28] h = .nx [x0, .v (.ref 0), x2, x3, .v (.str O), x5, .v (.str Q), .v (.int (lngF O Q)), x8, x9, x10, x11, x12, x13, x14, .v (.str y), x16, x17, x18, x19, x20, x21, x22, x23, x24, x25, x26, x27, x28] h := by
  have e : (if O.length < Q.length then (Q.length : Int) else O.length) = (lngF O Q : Nat) := by
    unfold lngF
    split <;> omega
  simp (disch := first | assumption | omega | (simp only [List.length_map, List.length_append, List.length_cons, List.length_nil, List.length_take, List.length_drop, List.length_replicate, List.length_range, repL_length, List.length_reverse, List.length_set, rgI_len, Int.toNat_natCast]; omega) | (simp; done) | fail) [-getElem?_pos, s_law_14]
  exact e
theorem seg_e2 {y O Q : List Nat} (h : Hc) (lO : O.length ≤ 12) (lQ : Q.length ≤ 12) (x0 x2 x3 x5 x8 x9 x10 x11 x12 x13 x14 x16 x17 x18 x19 x20 x21 x22 x23 x24 x25 x26 x27 x28 : Sl) : s_law_15 [x0, .v (.ref 0), x2, x3, .v (.str O), x5, .v (.str Q), .v (.int (lngF O Q)), x8, x9, x10, x11, x12, x13, x14, .v (.str y), x16, x17, x18, x19, x20, x21, x22, x23, x24, x25, x26, x27, x28] h = .nx [x0, .v (.ref 0), x2, x3, .u, x5, .u, .u, x8, x9, x10, x11, x12, x13, x14, .v (.str y), x16, x17, x18, x19, .v (.str (padF (lngF O Q) O)), .v (.str (padF (lngF O Q) Q)), x22, x23, x24, x25, x26, x27, x28] h := by
  have l1 : O.length ≤ lngF O Q := Nat.le_max_left _ _
  have l2 : Q.length ≤ lngF O Q := Nat.le_max_right _ _
  have l3 : lngF O Q ≤ 12 := by unfold lngF; omega
  have s1 : ∀ T : List Nat, T.length ≤ lngF O Q → repL [48] ((lngF O Q : Nat) - (T.length : Int)) ++ T = padF (lngF O Q) T := fun T hT => by
    rw [repZ _ (by omega)]
    unfold padF
    congr 2
    omega
  have lc : R.lc (.n 26) tYesM (eBin opAdd (eBin opMul (eC (.str [48])) (eBin opSub (eLook 7) (eBi bLen (aCons (eLook 26) aNil)))) (eLook 26)) [x0, .v (.ref 0), x2, x3, .v (.str O), x5, .v (.str Q), .v (.int (lngF O Q)), x8, x9, x10, x11, x12, x13, x14, .v (.str y), x16, x17, x18, x19, x20, x21, x22, x23, x24, x25, .u, x27, x28] (.ok [.str O, .str Q] h) = .ok (.lst [.str (padF (lngF O Q) O), .str (padF (lngF O Q) Q)]) h := by
    rw [show [D.str O, D.str Q] = [O, Q].map D.str from rfl, lc_eq D.str (fun T => .str (padF (lngF O Q) T)) [O, Q] (by simp) fun T hT => ⟨_, rfl, by
      have hl : T.length ≤ lngF O Q := by
        rcases List.mem_cons.mp hT with rfl | hT
        · exact l1
        · rw [List.mem_singleton.mp hT]; exact l2
      have c3 : -1048576 ≤ ((lngF O Q : Nat) : Int) - T.length ∧ ((lngF O Q : Nat) : Int) - T.length ≤ 16777216 := by omega
      have ss := s1 T hl
      simp (disch := first | assumption | omega | (simp only [List.length_map, List.length_append, List.length_cons, List.length_nil, List.length_take, List.length_drop, List.length_replicate, List.length_range, repL_length, List.length_reverse, List.length_set, rgI_len, Int.toNat_natCast]; omega) | (simp; done) | fail) [-getElem?_pos, ss]⟩]
    rfl
  refine (kl_nx (ρ' := [x0, .v (.ref 0), x2, x3, .v (.str O), x5, .v (.str Q), .v (.int (lngF O Q)), x8, x9, x10, x11, x12, x13, x14, .v (.str y), x16, x17, x18, x19, .v (.str (padF (lngF O Q) O)), .v (.str (padF (lngF O Q) Q)), x22, x23, x24, x25, x26, x27, x28]) (h' := h) ?_).trans rfl
  simp (disch := first | assumption | omega | (simp only [List.length_map, List.length_append, List.length_cons, List.length_nil, List.length_take, List.length_drop, List.length_replicate, List.length_range, repL_length, List.length_reverse, List.length_set, rgI_len, Int.toNat_natCast]; omega) | (simp; done) | fail) [-getElem?_pos]
  rw [lc]
  simp (disch := first | assumption | omega | (simp only [List.length_map, List.length_append, List.length_cons, List.length_nil, List.length_take, List.length_drop, List.length_replicate, List.length_range, repL_length, List.length_reverse, List.length_set, rgI_len, Int.toNat_natCast]; omega) | (simp; done) | fail) [-getElem?_pos]
  rfl
theorem xsum_law {g : List Nat} (l0 : 1 ≤ g.length) (bg : Bits g) (A B : List Nat) (hl : A.length = B.length) (bA : Bits A) (bB : Bits B) : xorF (lawR g (A ++ List.replicate g.length 48)) (lawR g (B ++ List.replicate g.length 48)) = lawR g (xorF A B ++ List.replicate g.length 48) := by
  rw [← lawR_xor l0 bg _ _ (by rw [List.length_append, List.length_append, hl]) (whole_bits bA) (whole_bits bB), xorF_app hl, xorF_self, List.length_replicate]
theorem seg_e3 {y g O Q : List Nat} (b : By y g) (h : Hc) (lO : O.length ≤ 12) (lQ : Q.length ≤ 12) (bO : Bits O) (bQ : Bits Q) (x0 x2 x3 x5 x8 x9 x10 x11 x12 x13 x14 x16 x17 x18 x19 x22 x23 x24 x25 x26 x27 x28 : Sl) : s_law_16 [x0, .v (.ref 0), x2, x3, .u, x5, .u, .u, x8, x9, x10, x11, x12, x13, x14, .v (.str y), x16, x17, x18, x19, .v (.str (padF (lngF O Q) O)), .v (.str (padF (lngF O Q) Q)), x22, x23, x24, x25, x26, x27, x28] h = .nx [x0, .v (.ref 0), x2, x3, .u, x5, .u, .u, x8, x9, x10, x11, x12, x13, x14, .v (.str y), x16, x17, x18, x19, .u, .u, x22, x23, x24, x25, x26, x27, x28] h := by
  have l1 : O.length ≤ lngF O Q := Nat.le_max_left _ _
  have l2 : Q.length ≤ lngF O Q := Nat.le_max_right _ _
  have l3 : lngF O Q ≤ 12 := by unfold lngF; omega
  have pA := pad_len l1
  have pB := pad_len l2
  have bA := pad_bits (n := lngF O Q) bO
  have bB := pad_bits (n := lngF O Q) bQ
  generalize padF (lngF O Q) O = A at *
  generalize padF (lngF O Q) Q = B at *
  have l0 := b.l0
  have k1 := b.l1
  have lx : (xorF A B).length ≤ 12 := by rw [xorF_len]; omega
  have r1 := rest_ok b A h (by omega) bA
  have r2 := rest_ok b B h (by omega) bB
  have r3 := rest_ok b (xorF A B) h (by omega) (xorF_bits _ _)
  have x1 := lxor_ok A B h bA bB (by omega)
  have w1 := without_ok A B h bA bB (by omega)
  have xs := xsum_ok b _ _ h (lawR_len l0 (A ++ List.replicate g.length 48)) (lawR_len l0 (B ++ List.replicate g.length 48)) (lawR_bits (whole_bits bA)) (lawR_bits (whole_bits bB))
  rw [xsum_law l0 b.b A B (by omega) bA bB] at xs
  refine (kl_nx (ρ' := [x0, .v (.ref 0), x2, x3, .u, x5, .u, .u, x8, x9, x10, x11, x12, x13, x14, .v (.str y), x16, x17, x18, x19, .v (.str A), .v (.str B), x22, x23, x24, x25, x26, x27, x28]) (h' := h) ?_).trans rfl
  rw [sIf_no (h' := h)]
  · rfl
  · refine or_no (h1 := h) ?_ ?_
    · refine ne_no (x := .str (lawR g (xorF A B ++ List.replicate g.length 48))) ?_ ?_ (by simp)
      · simp (disch := first | assumption | omega | (simp only [List.length_map, List.length_append, List.length_cons, List.length_nil, List.length_take, List.length_drop, List.length_replicate, List.length_range, repL_length, List.length_reverse, List.length_set, rgI_len, Int.toNat_natCast]; omega) | (simp; done) | fail) [-getElem?_pos, r1, r2, xs]
      · simp (disch := first | assumption | omega | (simp only [List.length_map, List.length_append, List.length_cons, List.length_nil, List.length_take, List.length_drop, List.length_replicate, List.length_range, repL_length, List.length_reverse, List.length_set, rgI_len, Int.toNat_natCast]; omega) | (simp; done) | fail) [-getElem?_pos, x1, r3]
    · refine ne_no (x := .str (xorF A B)) ?_ ?_ (by simp)
      · simp (disch := first | assumption | omega | (simp only [List.length_map, List.length_append, List.length_cons, List.length_nil, List.length_take, List.length_drop, List.length_replicate, List.length_range, repL_length, List.length_reverse, List.length_set, rgI_len, Int.toNat_natCast]; omega) | (simp; done) | fail) [-getElem?_pos, w1]
      · simp (disch := first | assumption | omega | (simp only [List.length_map, List.length_append, List.length_cons, List.length_nil, List.length_take, List.length_drop, List.length_replicate, List.length_range, repL_length, List.length_reverse, List.length_set, rgI_len, Int.toNat_natCast]; omega) | (simp; done) | fail) [-getElem?_pos, x1]
theorem seg_e {y g O : List Nat} (b : By y g) {h0 : Hc} (d0 : Dc h0) (lO : O.length ≤ 12) (bO : Bits O) (x0 x2 x3 x5 x6 x7 x8 x9 x10 x11 x12 x13 x14 x16 x17 x18 x19 x20 x21 x22 x23 x24 x25 x26 x27 x28 : Sl) : ∃ (h1 : Hc), Dc h1 ∧ ∀ k : SM, (sSeq s_law_13 (sSeq s_law_14 (sSeq s_law_15 (sSeq s_law_16 k)))) [x0, .v (.ref 0), x2, x3, .v (.str O), x5, x6, x7, x8, x9, x10, x11, x12, x13, x14, .v (.str y), x16, x17, x18, x19, x20, x21, x22, x23, x24, x25, x26, x27, x28] h0 = k [x0, .v (.ref 0), x2, x3, .u, x5, .u, .u, x8, x9, x10, x11, x12, x13, x14, .v (.str y), x16, x17, x18, x19, .u, .u, x22, x23, x24, x25, x26, x27, x28] h1 := by
  obtain ⟨Q, h1, d1, bQ, lQ, e⟩ := seg_e0 (y := y) (O := O) d0 x0 x2 x3 x5 x6 x7 x8 x9 x10 x11 x12 x13 x14 x16 x17 x18 x19 x20 x21 x22 x23 x24 x25 x26 x27 x28
  refine ⟨h1, d1, fun k => ?_⟩
  rw [seq_nx e, seq_nx (seg_e1 h1 lO lQ x0 x2 x3 x5 x7 x8 x9 x10 x11 x12 x13 x14 x16 x17 x18 x19 x20 x21 x22 x23 x24 x25 x26 x27 x28), seq_nx (seg_e2 h1 lO lQ x0 x2 x3 x5 x8 x9 x10 x11 x12 x13 x14 x16 x17 x18 x19 x20 x21 x22 x23 x24 x25 x26 x27 x28), seq_nx (seg_e3 b h1 lO lQ bO bQ x0 x2 x3 x5 x8 x9 x10 x11 x12 x13 x14 x16 x17 x18 x19 x22 x23 x24 x25 x26 x27 x28)]
end Z

namespace Z
open PySem PySem.Spec L2
/-! k13, plain: the turn, slips unseen -/
theorem seg_f0 {y : List Nat} {h0 : Hc} (d0 : Dc h0) (x0 x2 x3 x4 x5 x6 x7 x8 x9 x10 x11 x12 x13 x14 x16 x17 x18 x19 x20 x21 x22 x23 x24 x25 x26 x27 x28 : Sl) : ∃ (w m : Int) (h1 : Hc), Dc h1 ∧ 1 ≤ w ∧ w ≤ 7 ∧ 1 ≤ m ∧ m ≤ 3 ∧ s_law_17 [x0, .v (.ref 0), x2, x3, x4, x5, x6, x7, x8, x9, x10, x11, x12, x13, x14, .v (.str y), x16, x17, x18, x19, x20, x21, x22, x23, x24, x25, x26, x27, x28] h0 = .nx [x0, .v (.ref 0), x2, x3, x4, x5, x6, x7, x8, x9, x10, x11, x12, x13, x14, .v (.str y), x16, x17, x18, x19, x20, x21, .v (.int w), .v (.int m), x24, x25, x26, x27, x28] h1 := by
  obtain ⟨w, h1, e1, a1, b1, d1⟩ := roll_ok (m := 7) d0 (by omega) (by omega)
  obtain ⟨m, h2, e2, a2, b2, d2⟩ := roll_ok (m := 3) d1 (by omega) (by omega)
  refine ⟨1 + w, 1 + m, h2, d2, by omega, by omega, by omega, by omega, ?_⟩
  simp (disch := first | assumption | omega | (simp only [List.length_map, List.length_append, List.length_cons, List.length_nil, List.length_take, List.length_drop, List.length_replicate, List.length_range, repL_length, List.length_reverse, List.length_set, rgI_len, Int.toNat_natCast]; omega) | (simp; done) | fail) [-getElem?_pos, s_law_17, e1, e2]
theorem seg_f1 {y g : List Nat} (b : By y g) (w m : Int) (h : Hc) (w0 : 1 ≤ w) (w1 : w ≤ 7) (m0 : 1 ≤ m) (m1 : m ≤ 3) (x0 x2 x3 x4 x5 x6 x7 x8 x9 x10 x11 x12 x13 x14 x16 x17 x18 x19 x20 x21 x24 x25 x26 x27 x28 : Sl) : s_law_18 [x0, .v (.ref 0), x2, x3, x4, x5, x6, x7, x8, x9, x10, x11, x12, x13, x14, .v (.str y), x16, x17, x18, x19, x20, x21, .v (.int w), .v (.int m), x24, x25, x26, x27, x28] h = .nx [x0, .v (.ref 0), x2, x3, x4, x5, x6, x7, .v (.lst ((unsF g w.toNat (setsF w.toNat m.toNat)).map tupI)), x9, x10, x11, x12, x13, x14, .v (.str y), x16, x17, x18, x19, x20, x21, .v (.int w), .v (.int m), x24, x25, x26, x27, x28] h := by
  obtain ⟨e1, _, rl, fl⟩ := sets_ok w m h w0 w1 m0 m1
  generalize setsF w.toNat m.toNat = rows at *
  have l0 := b.l0
  have cw : -(2 ^ 62) ≤ w ∧ w < 2 ^ 62 := by omega
  have fil : R.lc (.n 26) (tB1 (eBin opNotIn (eC (.str [49])) (eCall 2 m__law_rest (aCons (eM1 mJoin (eC (.str [])) (eLc (.n 27) [27] (iR1 (aCons (eVar 22) aNil)) tYesM (eBi bStr (aCons (eBi bInt (aCons (eBin opIn (eLook 27) (eLook 26)) aNil)) aNil)))) (aCons (eVar 15) aNil))))) (eVar 26) [x0, .v (.ref 0), x2, x3, x4, x5, x6, x7, x8, x9, x10, x11, x12, x13, x14, .v (.str y), x16, x17, x18, x19, x20, x21, .v (.int w), .v (.int m), x24, x25, .u, x27, x28] (.ok (rows.map tupI) h) = .ok (.lst ((unsF g w.toNat rows).map tupI)) h := by
    refine lc_fil tupI tupI (fun r => decide (lawR g (rowT w.toNat r) = List.replicate g.length 48)) rows (by omega) fun r hr => ?_
    have fr := List.all_eq_true.mp fl r hr
    have lr := lrest_ok b (rowT w.toNat r) h (by rw [rowT_len]; omega) (rowT_bits _ _)
    have zi := zeros_iff (lawR_bits (g := g) (rowT_bits w.toNat r))
    rw [lawR_len l0] at zi
    refine ⟨_, rfl, ?_, fun _ => ?_⟩
    · simp (disch := first | assumption | omega | (simp only [List.length_map, List.length_append, List.length_cons, List.length_nil, List.length_take, List.length_drop, List.length_replicate, List.length_range, repL_length, List.length_reverse, List.length_set, rgI_len, Int.toNat_natCast]; omega) | (simp; done) | fail) [-getElem?_pos, tupI]
      rw [lc_eq D.int (fun k => D.str [if anyEq (.int k) (r.map D.int) = true then 49 else 48]) (rgI 0 w.toNat) (by rw [rgI_len]; omega) fun k _ => ⟨_, rfl, by
        cases q : anyEq (.int k) (r.map D.int) with
        | true => simp (disch := first | assumption | omega | (simp only [List.length_map, List.length_append, List.length_cons, List.length_nil, List.length_take, List.length_drop, List.length_replicate, List.length_range, repL_length, List.length_reverse, List.length_set, rgI_len, Int.toNat_natCast]; omega) | (simp; done) | fail) [-getElem?_pos, q, numD_0, numD_1]
        | false => simp (disch := first | assumption | omega | (simp only [List.length_map, List.length_append, List.length_cons, List.length_nil, List.length_take, List.length_drop, List.length_replicate, List.length_range, repL_length, List.length_reverse, List.length_set, rgI_len, Int.toNat_natCast]; omega) | (simp; done) | fail) [-getElem?_pos, q, numD_0, numD_1]⟩]
      rw [R.bin2_ok, rowT_join _ _ _ (by omega)]
      simp (disch := first | assumption | omega | (simp only [List.length_map, List.length_append, List.length_cons, List.length_nil, List.length_take, List.length_drop, List.length_replicate, List.length_range, repL_length, List.length_reverse, List.length_set, rgI_len, Int.toNat_natCast]; omega) | (simp; done) | fail) [-getElem?_pos, lr]
      simpa using zi
    · simp (disch := first | assumption | omega | (simp only [List.length_map, List.length_append, List.length_cons, List.length_nil, List.length_take, List.length_drop, List.length_replicate, List.length_range, repL_length, List.length_reverse, List.length_set, rgI_len, Int.toNat_natCast]; omega) | (simp; done) | fail) [-getElem?_pos, tupI]
  simp (disch := first | assumption | omega | (simp only [List.length_map, List.length_append, List.length_cons, List.length_nil, List.length_take, List.length_drop, List.length_replicate, List.length_range, repL_length, List.length_reverse, List.length_set, rgI_len, Int.toNat_natCast]; omega) | (simp; done) | fail) [-getElem?_pos, s_law_18, e1]
  rw [fil]
  simp (disch := first | assumption | omega | (simp only [List.length_map, List.length_append, List.length_cons, List.length_nil, List.length_take, List.length_drop, List.length_replicate, List.length_range, repL_length, List.length_reverse, List.length_set, rgI_len, Int.toNat_natCast]; omega) | (simp; done) | fail) [-getElem?_pos]
def clo : TM := (tB1 (eBin opNe (eCall 2 m_longer (aCons (eLst (aCons (eTup (aCons (eC (.int 0)) aNil)) (aCons (eTup aNil) aNil))) (aCons (eVar 22) aNil))) (eBin opAdd (eLc (.n 27) [27] (iR2 (aCons (eC (.int 1)) (aCons (eVar 22) aNil))) tYesM (eTup (aCons (eC (.int 0)) (aCons (eVar 27) aNil)))) (eLc (.n 27) [27] (iR1 (aCons (eVar 22) aNil)) tYesM (eTup (aCons (eVar 27) aNil))))))
theorem clo_no (w : Int) (h : Hc) (w0 : 1 ≤ w) (w1 : w ≤ 7) (x0 x1 x2 x3 x4 x5 x6 x7 x8 x9 x10 x11 x12 x13 x14 x15 x16 x17 x18 x19 x20 x21 x23 x24 x25 x26 x27 x28 : Sl) : clo [x0, x1, x2, x3, x4, x5, x6, x7, x8, x9, x10, x11, x12, x13, x14, x15, x16, x17, x18, x19, x20, x21, .v (.int w), x23, x24, x25, x26, x27, x28] h = .ok false h := by
  rcases (show w = 1 ∨ w = 2 ∨ w = 3 ∨ w = 4 ∨ w = 5 ∨ w = 6 ∨ w = 7 by omega) with rfl | rfl | rfl | rfl | rfl | rfl | rfl <;> kernel_rfl
theorem faith_tupI : Faith tupI := fun a b => by
  simp [tupI, eqvs_map faith_int]
theorem seg_f2 {y g : List Nat} (b : By y g) (w m : Int) (h : Hc) (w0 : 1 ≤ w) (w1 : w ≤ 7) (m0 : 1 ≤ m) (m1 : m ≤ 3) (x0 x2 x3 x4 x5 x6 x7 x9 x10 x11 x12 x13 x14 x16 x17 x18 x19 x20 x21 x24 x25 x26 x27 x28 : Sl) : s_law_19 [x0, .v (.ref 0), x2, x3, x4, x5, x6, x7, .v (.lst ((unsF g w.toNat (setsF w.toNat m.toNat)).map tupI)), x9, x10, x11, x12, x13, x14, .v (.str y), x16, x17, x18, x19, x20, x21, .v (.int w), .v (.int m), x24, x25, x26, x27, x28] h = .nx [x0, .v (.ref 0), x2, x3, x4, x5, x6, x7, .u, x9, x10, x11, x12, x13, x14, .v (.str y), x16, x17, x18, x19, x20, x21, .u, .u, x24, x25, x26, x27, x28] h := by
  obtain ⟨e1, e2, rl, fl⟩ := sets_ok w m h w0 w1 m0 m1
  have us := unseen_ok b w m h w0 w1 m0 m1
  have lu : (unsF g w.toNat (setsF w.toNat m.toNat)).length ≤ 100 := Nat.le_trans (List.length_filter_le _ _) rl
  generalize hrows : setsF w.toNat m.toNat = rows at *
  refine (kl_nx (ρ' := [x0, .v (.ref 0), x2, x3, x4, x5, x6, x7, .v (.lst ((unsF g w.toNat rows).map tupI)), x9, x10, x11, x12, x13, x14, .v (.str y), x16, x17, x18, x19, x20, x21, .v (.int w), .v (.int m), x24, x25, x26, x27, x28]) (h' := h) ?_).trans rfl
  generalize unsF g w.toNat rows = us' at *
  have n1 := eqvs_dec faith_tupI us' us'
  have n2 := eqvs_dec faith_tupI rows rows
  have pp : ∀ (n : Nat) (r : List Int), pl (n + 2) (tupI r) = true := fun n r => by simp [tupI]
  rw [sIf_no (h' := h)]
  · rfl
  · refine or_no (h1 := h) ?_ (or_no (h1 := h) ?_ ?_)
    · refine ne_no (x := .lst (us'.map tupI)) ?_ ?_ ?_
      · simp (disch := first | assumption | omega | (simp only [List.length_map, List.length_append, List.length_cons, List.length_nil, List.length_take, List.length_drop, List.length_replicate, List.length_range, repL_length, List.length_reverse, List.length_set, rgI_len, Int.toNat_natCast]; omega) | (simp; done) | fail) [-getElem?_pos, us]
      · simp (disch := first | assumption | omega | (simp only [List.length_map, List.length_append, List.length_cons, List.length_nil, List.length_take, List.length_drop, List.length_replicate, List.length_range, repL_length, List.length_reverse, List.length_set, rgI_len, Int.toNat_natCast]; omega) | (simp; done) | fail) [-getElem?_pos]
      · simp [n1, pp]
    · refine ne_no (x := .lst (rows.map tupI)) ?_ ?_ ?_
      · simp (disch := first | assumption | omega | (simp only [List.length_map, List.length_append, List.length_cons, List.length_nil, List.length_take, List.length_drop, List.length_replicate, List.length_range, repL_length, List.length_reverse, List.length_set, rgI_len, Int.toNat_natCast]; omega) | (simp; done) | fail) [-getElem?_pos, e2]
      · simp (disch := first | assumption | omega | (simp only [List.length_map, List.length_append, List.length_cons, List.length_nil, List.length_take, List.length_drop, List.length_replicate, List.length_range, repL_length, List.length_reverse, List.length_set, rgI_len, Int.toNat_natCast]; omega) | (simp; done) | fail) [-getElem?_pos, e1]
      · simp [n2, pp]
    · exact clo_no w h w0 w1 x0 _ x2 x3 x4 x5 x6 x7 _ x9 x10 x11 x12 x13 x14 _ x16 x17 x18 x19 x20 x21 _ x24 x25 x26 x27 x28
theorem seg_f {y g : List Nat} (b : By y g) {h0 : Hc} (d0 : Dc h0) (x0 x2 x3 x4 x5 x6 x7 x8 x9 x10 x11 x12 x13 x14 x16 x17 x18 x19 x20 x21 x22 x23 x24 x25 x26 x27 x28 : Sl) : ∃ (h1 : Hc), Dc h1 ∧ ∀ k : SM, (sSeq s_law_17 (sSeq s_law_18 (sSeq s_law_19 k))) [x0, .v (.ref 0), x2, x3, x4, x5, x6, x7, x8, x9, x10, x11, x12, x13, x14, .v (.str y), x16, x17, x18, x19, x20, x21, x22, x23, x24, x25, x26, x27, x28] h0 = k [x0, .v (.ref 0), x2, x3, x4, x5, x6, x7, .u, x9, x10, x11, x12, x13, x14, .v (.str y), x16, x17, x18, x19, x20, x21, .u, .u, x24, x25, x26, x27, x28] h1 := by
  obtain ⟨w, m, h1, d1, w0, w1, m0, m1, e⟩ := seg_f0 (y := y) d0 x0 x2 x3 x4 x5 x6 x7 x8 x9 x10 x11 x12 x13 x14 x16 x17 x18 x19 x20 x21 x22 x23 x24 x25 x26 x27 x28
  refine ⟨h1, d1, fun k => ?_⟩
  rw [seq_nx e, seq_nx (seg_f1 b w m h1 w0 w1 m0 m1 x0 x2 x3 x4 x5 x6 x7 x8 x9 x10 x11 x12 x13 x14 x16 x17 x18 x19 x20 x21 x24 x25 x26 x27 x28), seq_nx (seg_f2 b w m h1 w0 w1 m0 m1 x0 x2 x3 x4 x5 x6 x7 x9 x10 x11 x12 x13 x14 x16 x17 x18 x19 x20 x21 x24 x25 x26 x27 x28)]
end Z

namespace Z
open PySem PySem.Spec L2
/-! k13, plain: the turn, rounds -/
theorem seg_g0 {y g : List Nat} (b : By y g) (h : Hc) (x0 x2 x3 x4 x5 x6 x7 x8 x9 x10 x11 x12 x13 x14 x16 x17 x19 x20 x21 x22 x23 x24 x25 x26 x27 x28 : Sl) : s_law_20 [x0, .v (.ref 0), x2, x3, x4, x5, x6, x7, x8, x9, x10, x11, x12, x13, x14, .v (.str y), x16, x17, .v (.int g.length), x19, x20, x21, x22, x23, x24, x25, x26, x27, x28] h = .nx [x0, .v (.ref 0), x2, x3, x4, x5, x6, x7, x8, .v (.str (startF g)), x10, x11, x12, x13, x14, .v (.str y), x16, x17, .u, x19, x20, x21, x22, x23, x24, x25, x26, x27, x28] h := by
  have l0 := b.l0
  have l1 := b.l1
  have er : repL [48] ((g.length : Int) - 1) ++ [49] = startF g := by
    rw [repZ _ (by omega)]
    unfold startF
    congr 2
    omega
  have c3 : -1048576 ≤ (g.length : Int) - 1 ∧ (g.length : Int) - 1 ≤ 16777216 := by omega
  refine (kl_nx (ρ' := [x0, .v (.ref 0), x2, x3, x4, x5, x6, x7, x8, .v (.str (startF g)), x10, x11, x12, x13, x14, .v (.str y), x16, x17, .v (.int g.length), x19, x20, x21, x22, x23, x24, x25, x26, x27, x28]) (h' := h) ?_).trans rfl
  simp (disch := first | assumption | omega | (simp only [List.length_map, List.length_append, List.length_cons, List.length_nil, List.length_take, List.length_drop, List.length_replicate, List.length_range, repL_length, List.length_reverse, List.length_set, rgI_len, Int.toNat_natCast]; omega) | (simp; done) | fail) [-getElem?_pos, er]
theorem seg_g1 {y g : List Nat} (b : By y g) (h : Hc) (x0 x2 x3 x4 x5 x6 x7 x8 x10 x11 x12 x13 x14 x16 x17 x19 x20 x21 x22 x23 x24 x25 x26 x27 x28 : Sl) : s_law_21 [x0, .v (.ref 0), x2, x3, x4, x5, x6, x7, x8, .v (.str (startF g)), x10, x11, x12, x13, x14, .v (.str y), x16, x17, .u, x19, x20, x21, x22, x23, x24, x25, x26, x27, x28] h = .nx [x0, .v (.ref 0), x2, x3, x4, x5, x6, x7, x8, .v (.str (startF g)), x10, x11, x12, x13, x14, .v (.str y), x16, x17, .u, x19, x20, x21, x22, x23, .v (.str (nxt g (startF g))), .v (.int 1), x26, x27, x28] h := by
  obtain ⟨sl, sb⟩ := start_facts b.l0
  have l1 := b.l1
  obtain ⟨_, e, _, _⟩ := nxt_ok b (startF g) h sl sb
  simp (disch := first | assumption | omega | (simp only [List.length_map, List.length_append, List.length_cons, List.length_nil, List.length_take, List.length_drop, List.length_replicate, List.length_range, repL_length, List.length_reverse, List.length_set, rgI_len, Int.toNat_natCast]; omega) | (simp; done) | fail) [-getElem?_pos, s_law_21, e]
theorem seg_g2 {y g : List Nat} (b : By y g) (h : Hc) (x0 x2 x3 x4 x5 x6 x7 x8 x10 x11 x12 x13 x14 x16 x17 x19 x20 x21 x22 x23 x26 x27 x28 : Sl) : s_law_23 [x0, .v (.ref 0), x2, x3, x4, x5, x6, x7, x8, .v (.str (startF g)), x10, x11, x12, x13, x14, .v (.str y), x16, x17, .u, x19, x20, x21, x22, x23, .v (.str (nxt g (startF g))), .v (.int 1), x26, x27, x28] h = .nx [x0, .v (.ref 0), x2, x3, x4, x5, x6, x7, x8, .v (.str (startF g)), x10, x11, x12, x13, x14, .v (.str y), x16, x17, .u, x19, x20, x21, x22, x23, .v (.str (lwF g (startF g) 40 (nxt g (startF g), 1)).1), .v (.int (lwF g (startF g) 40 (nxt g (startF g), 1)).2), x26, x27, x28] h := by
  obtain ⟨sl, sb⟩ := start_facts b.l0
  have l1 := b.l1
  obtain ⟨_, _, n1, n2⟩ := nxt_ok b (startF g) h sl sb
  have st := while_eq (t := tAndM (tB1 (eBin opNe (eLook 24) (eLook 9))) (tB1 (eBin opLt (eLook 25) (eC (.int 40))))) (b := b_law_22) (fun s : List Nat × Nat => [x0, .v (.ref 0), x2, x3, x4, x5, x6, x7, x8, .v (.str (startF g)), x10, x11, x12, x13, x14, .v (.str y), x16, x17, .u, x19, x20, x21, x22, x23, .v (.str s.1), .v (.int s.2), x26, x27, x28]) (fun s => decide (s.1 ≠ startF g) && decide (s.2 < 40)) (fun s => (nxt g s.1, s.2 + 1)) (fun s => s.1.length = g.length ∧ Bits s.1) (fun s => 40 - s.2) h (fun s ⟨o1, o2⟩ => ?_) 1000000 40 (nxt g (startF g), 1) (by omega) (by omega) ⟨n1, n2⟩
  · have w := st.1
    simp (disch := first | assumption | omega | (simp only [List.length_map, List.length_append, List.length_cons, List.length_nil, List.length_take, List.length_drop, List.length_replicate, List.length_range, repL_length, List.length_reverse, List.length_set, rgI_len, Int.toNat_natCast]; omega) | (simp; done) | fail) [-getElem?_pos, s_law_23]
    exact w
  · obtain ⟨_, e, m1, m2⟩ := nxt_ok b s.1 h o1 o2
    refine ⟨?_, fun hc => ⟨.inl ?_, ⟨m1, m2⟩, ?_⟩⟩
    · by_cases q1 : s.1 = startF g
      · simp (disch := first | assumption | omega | (simp only [List.length_map, List.length_append, List.length_cons, List.length_nil, List.length_take, List.length_drop, List.length_replicate, List.length_range, repL_length, List.length_reverse, List.length_set, rgI_len, Int.toNat_natCast]; omega) | (simp; done) | fail) [-getElem?_pos, q1]
      · by_cases q2 : s.2 < 40
        · have q3 : (s.2 : Int) < 40 := by omega
          simp (disch := first | assumption | omega | (simp only [List.length_map, List.length_append, List.length_cons, List.length_nil, List.length_take, List.length_drop, List.length_replicate, List.length_range, repL_length, List.length_reverse, List.length_set, rgI_len, Int.toNat_natCast]; omega) | (simp; done) | fail) [-getElem?_pos, q1, q2, q3]
        · have q3 : ¬ (s.2 : Int) < 40 := by omega
          simp (disch := first | assumption | omega | (simp only [List.length_map, List.length_append, List.length_cons, List.length_nil, List.length_take, List.length_drop, List.length_replicate, List.length_range, repL_length, List.length_reverse, List.length_set, rgI_len, Int.toNat_natCast]; omega) | (simp; done) | fail) [-getElem?_pos, q1, q2, q3]
    · simp (disch := first | assumption | omega | (simp only [List.length_map, List.length_append, List.length_cons, List.length_nil, List.length_take, List.length_drop, List.length_replicate, List.length_range, repL_length, List.length_reverse, List.length_set, rgI_len, Int.toNat_natCast]; omega) | (simp; done) | fail) [-getElem?_pos, b_law_22, e]
    · have : s.2 < 40 := by
        have := (Bool.and_eq_true _ _ ▸ hc).2
        exact of_decide_eq_true this
      show 40 - (s.2 + 1) < 40 - s.2
      omega
theorem roundD_ne (o : Option Nat) (h : Hc) : opNe (roundD o) (roundD o) h = .ok (.bl false) h := by
  cases o with
  | none => rfl
  | some k => simp [roundD]
theorem seg_g3 {y g : List Nat} (b : By y g) (l5 : g.length ≤ 5) (h : Hc) (x0 x2 x3 x4 x5 x6 x7 x8 x10 x11 x12 x13 x14 x16 x17 x19 x20 x21 x22 x23 x26 x27 x28 : Sl) : s_law_24 [x0, .v (.ref 0), x2, x3, x4, x5, x6, x7, x8, .v (.str (startF g)), x10, x11, x12, x13, x14, .v (.str y), x16, x17, .u, x19, x20, x21, x22, x23, .v (.str (lwF g (startF g) 40 (nxt g (startF g), 1)).1), .v (.int (lwF g (startF g) 40 (nxt g (startF g), 1)).2), x26, x27, x28] h = .nx [x0, .v (.ref 0), x2, x3, x4, x5, x6, x7, x8, .u, x10, x11, x12, x13, x14, .u, x16, x17, .u, x19, x20, x21, x22, x23, .u, .u, x26, x27, x28] h := by
  have ro := round_ok b h
  rw [round_same g b.b b.l0 l5] at ro
  refine (kl_nx (ρ' := [x0, .v (.ref 0), x2, x3, x4, x5, x6, x7, x8, .v (.str (startF g)), x10, x11, x12, x13, x14, .v (.str y), x16, x17, .u, x19, x20, x21, x22, x23, .v (.str (lwF g (startF g) 40 (nxt g (startF g), 1)).1), .v (.int (lwF g (startF g) 40 (nxt g (startF g), 1)).2), x26, x27, x28]) (h' := h) ?_).trans rfl
  rw [sIf_no (h' := h)]
  · rfl
  · refine ne_no (x := roundD (lroundF g)) ?_ ?_ (roundD_ne _ h)
    · simp (disch := first | assumption | omega | (simp only [List.length_map, List.length_append, List.length_cons, List.length_nil, List.length_take, List.length_drop, List.length_replicate, List.length_range, repL_length, List.length_reverse, List.length_set, rgI_len, Int.toNat_natCast]; omega) | (simp; done) | fail) [-getElem?_pos, ro]
    · have e : lroundF g = if (lwF g (startF g) 40 (nxt g (startF g), 1)).1 = startF g then some (lwF g (startF g) 40 (nxt g (startF g), 1)).2 else none := rfl
      rw [e]
      generalize lwF g (startF g) 40 (nxt g (startF g), 1) = s
      by_cases q : s.1 = startF g
      · simp (disch := first | assumption | omega | (simp only [List.length_map, List.length_append, List.length_cons, List.length_nil, List.length_take, List.length_drop, List.length_replicate, List.length_range, repL_length, List.length_reverse, List.length_set, rgI_len, Int.toNat_natCast]; omega) | (simp; done) | fail) [-getElem?_pos, q, roundD]
      · simp (disch := first | assumption | omega | (simp only [List.length_map, List.length_append, List.length_cons, List.length_nil, List.length_take, List.length_drop, List.length_replicate, List.length_range, repL_length, List.length_reverse, List.length_set, rgI_len, Int.toNat_natCast]; omega) | (simp; done) | fail) [-getElem?_pos, q, roundD]
theorem seg_g {y g : List Nat} (b : By y g) (l5 : g.length ≤ 5) (h : Hc) (x0 x2 x3 x4 x5 x6 x7 x8 x9 x10 x11 x12 x13 x14 x16 x17 x19 x20 x21 x22 x23 x24 x25 x26 x27 x28 : Sl) : (sSeq s_law_20 (sSeq s_law_21 (sSeq s_law_23 s_law_24))) [x0, .v (.ref 0), x2, x3, x4, x5, x6, x7, x8, x9, x10, x11, x12, x13, x14, .v (.str y), x16, x17, .v (.int g.length), x19, x20, x21, x22, x23, x24, x25, x26, x27, x28] h = .nx [x0, .v (.ref 0), x2, x3, x4, x5, x6, x7, x8, .u, x10, x11, x12, x13, x14, .u, x16, x17, .u, x19, x20, x21, x22, x23, .u, .u, x26, x27, x28] h := by
  rw [seq_nx (seg_g0 b h x0 x2 x3 x4 x5 x6 x7 x8 x9 x10 x11 x12 x13 x14 x16 x17 x19 x20 x21 x22 x23 x24 x25 x26 x27 x28), seq_nx (seg_g1 b h x0 x2 x3 x4 x5 x6 x7 x8 x10 x11 x12 x13 x14 x16 x17 x19 x20 x21 x22 x23 x24 x25 x26 x27 x28), seq_nx (seg_g2 b h x0 x2 x3 x4 x5 x6 x7 x8 x10 x11 x12 x13 x14 x16 x17 x19 x20 x21 x22 x23 x26 x27 x28), seg_g3 b l5 h]
end Z

namespace Z
open PySem PySem.Spec L2
/-! k13: the plain law -/
theorem loop1 {t : Tg} {b : SM} {d : D} {ρ ρ1 ρ2 : Rho} {h h2 : Hc} (e : bindD t d ρ = some ρ1) (eb : b ρ1 h = .nx ρ2 h2) : loopM t b [d] ρ h = .nx ρ2 h2 := by simp only [loopM, e, eb]
theorem for1 {t : Tg} {b : SM} {im : IM} {d : D} {ρ ρ1 ρ2 : Rho} {h h0 h2 : Hc} (it : im ρ h = .ok [d] h0) (e : bindD t d ρ = some ρ1) (eb : b ρ1 h0 = .nx ρ2 h2) : sFor t im b ρ h = .nx ρ2 h2 := by
  rw [sFor_ap, it, O.for_ok]
  exact loop1 e eb
theorem plain_law : ∀ ns : List Int, ns.length ≤ 63 → (∀ z ∈ ns, Builtin.Int.intBits z ≤ 1048576) → ∃ h', m_law [.scr (ns.map D.int)] [] = .ok (.bl true) h' := by
  intro ns _ _
  obtain ⟨h0, e0, d0⟩ := rounds_ok ns
  obtain ⟨xs, m, h1, d1, lx, ex, m0, m1, ea⟩ := seg_a d0 (.v (.scr (ns.map D.int))) .u .u .u .u .u .u .u .u .u .u .u .u .u .u .u .u .u .u .u .u .u .u .u .u .u .u .u
  obtain ⟨h2, d2, eb⟩ := seg_b d1 xs m lx ex m0 (.v (.scr (ns.map D.int))) .u .u .u .u .u .u .u .u .u .u .u .u .u .u .u .u .u .u .u .u .u .u .u .u .u
  obtain ⟨y, g, h3, d3, b, l5, ec⟩ := seg_c d2 (.v (.scr (ns.map D.int))) .u .u .u .u .u .u .u .u .u .u .u .u .u .u .u .u .u .u .u .u .u .u .u .u .u .u .u
  obtain ⟨O, h4, d4, bO, lO, ed⟩ := seg_d b d3 (.v (.scr (ns.map D.int))) .u .u .u .u .u .u .u .u .u .u .u .u .u .u .u .u .u .u .u .u .u .u .u .u .u
  obtain ⟨h5, d5, ee⟩ := seg_e b d4 lO bO (.v (.scr (ns.map D.int))) .u .u .u .u .u .u .u .u .u .u .u .u .u .u (.v (.int g.length)) .u .u .u .u .u .u .u .u .u .u
  obtain ⟨h6, d6, ef⟩ := seg_f b d5 (.v (.scr (ns.map D.int))) .u .u .u .u .u .u .u .u .u .u .u .u .u .u .u (.v (.int g.length)) .u .u .u .u .u .u .u .u .u .u
  have eg := seg_g b l5 h6 (.v (.scr (ns.map D.int))) .u .u .u .u .u .u .u .u .u .u .u .u .u .u .u .u .u .u .u .u .u .u .u .u .u
  refine ⟨h6, ?_⟩
  rw [m_law_ap]
  have body := kl_nx (l := [1, 2, 3, 4, 5, 6, 7, 8, 9, 10, 11, 12, 13, 14, 15, 16, 17, 18, 19, 20, 21, 22, 23, 24, 25]) ((ea _).trans ((eb _).trans ((ec _).trans ((ed _).trans ((ee _).trans ((ef _).trans eg))))))
  have it : iOf (eCall 2 m__law_rounds (aCons (eVar 0) (aCons (eC (.int 1)) aNil))) [.v (.scr (ns.map D.int)), .u, .u, .u, .u, .u, .u, .u, .u, .u, .u, .u, .u, .u, .u, .u, .u, .u, .u, .u, .u, .u, .u, .u, .u, .u, .u, .u, .u] [] = .ok [.ref 0] h0 := by
    simp [e0]
  have fo := for1 (t := .n 1) (b := b_law_25) it rfl body
  have kf := kl_nx (l := [0]) fo
  unfold b_law
  rw [seq_nx kf]
  simp [plain_true]
end Z

namespace Z
open PySem PySem.Spec PyProof.Rows L2
theorem cx_none {P : Program} {w : World} {outer : List Env} {H : Hp} {s s' : Shared} {u : Value} (h : L2.CX P w outer H s (fun _ _ _ => False) u s') : False := by
  obtain ⟨_, _, _, _, _, _, _, _, _, _, _, _, z⟩ := h
  exact z
end Z
namespace Z
open PySem PySem.Spec PyProof.Rows L2
abbrev RowL : PySem.W.OpenRow := PySem.W.OpenLaw.row PySem.Challenge.rw_zipstack_k13_numbers_that_tell_if_a_text
abbrev hookL : PySem.W.Hook := He.hookX 4 faL ddL [] tfL exL
def obL (s : PySem.W.SharedT) : He.AlX := He.obsX 4 faL ddL [] tfL exL (HandSHeadRun.getT s)
theorem obL_eq (s : PySem.W.SharedT) : obL s = hookL.obs s.abs := He.obsX_eq (HandSHeadRun.getT_eq s)
def looseL : List PySem.Str := (["ZipFault", "BitError", "SumError", "MOST_BITS_HELD", "check_bits", "told_number", "number_in", "MOST_SUMMED", "check_eights", "plain_sum", "two_sums", "joined_sums", "changed_sums", "parity", "check_summed", "check_by", "rest", "without", "with_rest", "is_right", "rest_of_sum", "slips_unseen", "rest_alone", "some_places", "longer", "one_slip", "round_of", "told_rest", "eights_of", "_law_dice"] : List PySem.Str) ++ (["_law_roll", "_law_rounds", "_law_told", "_law_power", "_law_bits", "_law_xor", "_law_rest", "_law_whole", "_law_two", "_law_sets", "_law_turn", "_law_plain"] : List PySem.Str)
theorem runL (w : World) : HandSHeadRun.RunEq RowL (PySem.W.view RowL.prog [46]) hookL obL 4000 looseL w := by
  intro os
  kernel_rfl
end Z
section
open PySem PySem.W PySem.Calls PyProof.Rows
theorem holds_zipstack_k13_numbers_that_tell_if_a_text : PySem.Challenge.rw_zipstack_k13_numbers_that_tell_if_a_text.Holds := by
  w_on; o_law
  refine HandSHeadRun.head_any (r := Z.RowL) (q := view Z.RowL.prog [46]) (H := Z.hookL) (ob := Z.obL) (M := 4000) (loose := Z.looseL) (d := HandSHeadRun.topDef Z.RowL.prog 46) (kwd := []) Z.obL_eq
    (by kernel_rfl) (fun s => by kernel_rfl) Z.runL (by kernel_rfl) (by kernel_rfl) (by kernel_rfl) (by rfl) (by first | assumption | decide +kernel) (by decide +kernel) ⟨rfl, rfl, rfl, rfl, rfl, by decide +kernel⟩ ?hw ?hc
  case hw => w_witness2
  case hc =>
    refine LamX.walk_ofTsE (l := PySem.Challenge.rw_zipstack_k13_numbers_that_tell_if_a_text) (n := 63) (k := 16) (x := "script") (CX := fun w => L2.CX (PySem.Challenge.rw_zipstack_k13_numbers_that_tell_if_a_text).prog w) rfl (by decide) (by kernel_rfl) ⟨rfl, by decide, by decide⟩ ?F (fun _ _ _ _ _ z => Z.cx_none z)
    case F =>
      intro w mg fa h Y N hmg0
      obtain ⟨K, KX, c⟩ := Y
      have hmg : mg ("law" : PySem.Str) = some (.ref fa) := by
        have e : (HandSHeadRun.topDef Z.RowL.prog 46).name = ("law" : PySem.Str) := by kernel_rfl
        rw [← e]
        exact hmg0
      exact ⟨K, KX, Z.law_at (G := Z.glK K) (m := Z.m_law) (st := Z.top 46) KX c 37 rfl (Z.tl_in K) rfl hmg (fun _ _ _ _ _ _ us hl => match us, hl with | [_], _ => rfl)
        (fun base kb nb tb => Z.z_law (Z.fx_of KX N c tb)) (He.glo_ok KX N (Z.fact_at c 37 rfl)) Z.plain_law⟩
end
theorem PySem.Challenge.cw_zipstack_k13_numbers_that_tell_if_a_text_holds : PySem.Challenge.rw_zipstack_k13_numbers_that_tell_if_a_text.Holds :=
  holds_zipstack_k13_numbers_that_tell_if_a_text
