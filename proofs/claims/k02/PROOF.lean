import PyProof.Rows.All
import Wide.All
import OpenK.AllK
import Wide.FinOn
import HandS.ForMost
import HandS.Exc
import HandS.ExcOwn
import HandS.TryOnly
import HandS.Lambda
import HandS.AnyAll
import HandS.TupAny
import HandS.TupMul
import HandS.Style
import HandS.FStr
import HandS.Wide
import HandS.Codes
import HandS.Deep
import HandS.TupLe
import HandS.Flow
import HandS.More
import HandS.RaiseFrom
import HandS.Zip
import HandS.Rev
import HandS.Defaults
import HandS.HeadHook4
import HandS.GenList
import PyProof.TupleOfGen
import HandS.Iter
import KE.GoesMore
import KE.KTupSum
import HandS.HeadWalk
import HandS.NestedK
import PySem.Challenge.RW_zipstack_k02_the_same_sign_told_once
import HandS.Head2
set_option Elab.async false
set_option linter.all false
set_option maxRecDepth 100000
set_option maxHeartbeats 4000000
/-! Z1: values as data, worlds, what they say of the abstract heap -/
namespace Z
open PySem PySem.Spec PyProof.Rows L2

/-- a dict's key -/
inductive K1 where
  | i (n : Int)
  | s (l : List Nat)
  deriving DecidableEq, Inhabited
def K1.key : K1 → Key
  | .i n => .inl n
  | .s l => .inr ⟨l.toArray⟩

/-- a value as data; ref: a box of the heap; lam: a lambda of the running def by its number; scr: the script -/
inductive D where
  | non | bl (b : Bool) | int (i : Int) | str (s : List Nat)
  | tup (xs : List D) | lst (xs : List D) | dic (kvs : List (K1 × D)) | dit (kvs : List (List K1 × D))
  | ref (n : Nat) | lam (i : Nat) | scr (xs : List D)
  deriving Inhabited

inductive Cell where
  | box (d : D)
  | ins (c : Nat) (fs : List (List Nat × D))
  deriving Inhabited
abbrev Hc := List Cell
/-- a slot: nothing, a value, a list or dict that nothing else holds -/
inductive Sl where
  | u | v (d : D) | o (d : D)
  deriving Inhabited
abbrev Rho := List Sl

/-- what the proof is about -/
structure Gl where
  K : PySem.W.Frag
  ca : Nat → Addr
  tl : List (Addr × Str)
  lam : Nat → Option (Arguments × Expr × Scope × Str)
structure Wd where
  m : Nat → Option Addr
  fz : Addr → Prop
  lam : Nat → Option Addr

def KTup (K : PySem.W.Frag) (a : Addr) (vs : List V) : Prop := ∃ (o : Obj) (its : Array Value) (n : Nat), K.lookup a = some o ∧ o.cls = .type "tuple" ∧ o.data = .seq its n ∧ its.size ≤ sizeLine ∧ Vals vs its.toList
def KLst (K : PySem.W.Frag) (a : Addr) (vs : List V) : Prop := ∃ (o : Obj) (its : Array Value) (n : Nat), K.lookup a = some o ∧ o.cls = .type "list" ∧ o.dict = none ∧ o.data = .seq its n ∧ its.size ≤ sizeLine ∧ Vals vs its.toList
def TupAt (G : Gl) (W : Wd) (H : Hp) (a : Addr) (vs : List V) : Prop := (W.fz a ∧ Rd H a (.tup vs)) ∨ KTup G.K a vs
def LstAt (G : Gl) (W : Wd) (H : Hp) (a : Addr) (vs : List V) : Prop := W.fz a ∧ H a = some (.lst vs)
def ScrAt (G : Gl) (W : Wd) (H : Hp) (a : Addr) (vs : List V) : Prop := (W.fz a ∧ Rd H a (.lst vs)) ∨ KLst G.K a vs

/-- a function object, known as it is -/
def LamO (f : Addr) (o : Obj) : HO := .ext fun h => h.get? f = some o
/-- f is the closed lambda number i -/
def LamAt (G : Gl) (H : Hp) (i : Nat) (f : Addr) : Prop := ∃ (params : Arguments) (body : Expr) (scope : Scope) (q : Str) (v1 v2 : Value) (c : Addr), G.lam i = some (params, body, scope, q) ∧
  H f = some (LamO f (PySem.W.kla_obj "<lambda>" q params body scope [] v1 c v2)) ∧ H c = some (LamX.CodeO c q)
/-- signs that there are -/
def okS (s : List Nat) : Prop := s.all (fun c => decide (c < 0x110000)) = true
mutual
def Rep (G : Gl) (W : Wd) (H : Hp) : D → V → Prop
  | .non, v => v = .non
  | .bl b, v => v = .bl b
  | .int i, v => v = .int i
  | .str s, v => v = .str ⟨s.toArray⟩ ∧ okS s
  | .tup ds, v => ∃ a vs, v = .ref a ∧ TupAt G W H a vs ∧ Reps G W H ds vs
  | .lst ds, v => ∃ a vs, v = .ref a ∧ LstAt G W H a vs ∧ Reps G W H ds vs
  | .dic kvs, v => ∃ a vvs, v = .ref a ∧ (W.fz a ∧ H a = some (.dK vvs)) ∧ RepK G W H kvs vvs
  | .dit kvs, v => ∃ a vvs, v = .ref a ∧ (W.fz a ∧ H a = some (.dT vvs)) ∧ RepT G W H kvs vvs
  | .ref n, v => ∃ a, v = .ref a ∧ W.m n = some a
  | .lam i, v => ∃ a, v = .ref a ∧ LamAt G H i a
  | .scr ds, v => ∃ a vs, v = .ref a ∧ ScrAt G W H a vs ∧ Reps G W H ds vs
def Reps (G : Gl) (W : Wd) (H : Hp) : List D → List V → Prop
  | [], vs => vs = []
  | d :: ds, vs => ∃ v r, vs = v :: r ∧ Rep G W H d v ∧ Reps G W H ds r
def RepK (G : Gl) (W : Wd) (H : Hp) : List (K1 × D) → List (Key × V) → Prop
  | [], vs => vs = []
  | (k, d) :: ds, vs => ∃ v r, vs = (k.key, v) :: r ∧ Rep G W H d v ∧ RepK G W H ds r
def RepT (G : Gl) (W : Wd) (H : Hp) : List (List K1 × D) → List (List Key × V) → Prop
  | [], vs => vs = []
  | (k, d) :: ds, vs => ∃ v r, vs = (k.map K1.key, v) :: r ∧ Rep G W H d v ∧ RepT G W H ds r
end
def RepF (G : Gl) (W : Wd) (H : Hp) : List (List Nat × D) → List (Str × V) → Prop
  | [], vs => vs = []
  | (k, d) :: ds, vs => ∃ v r, vs = (⟨k.toArray⟩, v) :: r ∧ Rep G W H d v ∧ RepF G W H ds r

def noTbl (o : HO) : Prop := ∀ ps, o ≠ .tbl ps
/-- what data lean on -/
structure Lk (W : Wd) (H : Hp) (W' : Wd) (H' : Hp) : Prop where
  m : ∀ n a, W.m n = some a → W'.m n = some a
  f : ∀ a, W.fz a → W'.fz a
  l : ∀ a φ, H a = some (.ext φ) → H' a = some (.ext φ)
  fk : ∀ a o, W.fz a → H a = some o → noTbl o → H' a = some o
/-- from one state to a later one, seen from whoever holds the first -/
structure Ext (W : Wd) (H : Hp) (W' : Wd) (H' : Hp) : Prop extends Lk W H W' H' where
  k : ∀ a o, H a = some o → (∀ n, W.m n ≠ some a) → noTbl o → H' a = some o
  t : ∀ a, H a ≠ none → H' a ≠ none
  nf : ∀ a, W'.fz a → W.fz a ∨ H a = none
  nm : ∀ n a, W'.m n = some a → W.m n = some a ∨ H a = none
theorem Ext.refl (W : Wd) (H : Hp) : Ext W H W H := ⟨⟨fun _ _ h => h, fun _ h => h, fun _ _ h => h, fun _ _ _ e _ => e⟩, fun _ _ h _ _ => h, fun _ h => h, fun _ h => .inl h, fun _ _ h => .inl h⟩
theorem Ext.trans {W W1 W2 : Wd} {H H1 H2 : Hp} (a : Ext W H W1 H1) (b : Ext W1 H1 W2 H2) : Ext W H W2 H2 where
  m := fun n x h => b.m n x (a.m n x h)
  f := fun x h => b.f x (a.f x h)
  l := fun i x h => b.l i x (a.l i x h)
  k := fun x o h hn ht => b.k x o (a.k x o h hn ht) (fun n q => by
    rcases a.nm n x q with z | z
    · exact hn n z
    · rw [h] at z; cases z) ht
  fk := fun x o h e n => b.fk x o (a.f x h) (a.fk x o h e n) n
  t := fun x h => b.t x (a.t x h)
  nf := fun x h => by
    rcases b.nf x h with z | z
    · exact a.nf x z
    · exact .inr (Classical.byContradiction fun q => a.t x q z)
  nm := fun n x h => by
    rcases b.nm n x h with z | z
    · exact a.nm n x z
    · exact .inr (Classical.byContradiction fun q => a.t x q z)

section
variable {G : Gl} {W W' : Wd} {H H' : Hp}
theorem Rd.fz {a : Addr} {u : HO} (e : ∀ o, H a = some o → noTbl o → H' a = some o) (n : noTbl u) (h : Rd H a u) : Rd H' a u := by
  rcases h with h | ⟨o, h⟩
  · exact .inl (e _ h n)
  · exact .inr ⟨o, e _ h fun ps z => by cases z⟩
theorem TupAt.ext (x : Lk W H W' H') {a : Addr} {vs : List V} (h : TupAt G W H a vs) : TupAt G W' H' a vs := by
  rcases h with ⟨f, h⟩ | h
  · exact .inl ⟨x.f a f, Rd.fz (fun o => x.fk a o f) (fun ps z => by cases z) h⟩
  · exact .inr h
theorem LstAt.ext (x : Lk W H W' H') {a : Addr} {vs : List V} (h : LstAt G W H a vs) : LstAt G W' H' a vs := ⟨x.f a h.1, x.fk a _ h.1 h.2 fun ps z => by cases z⟩
theorem ScrAt.ext (x : Lk W H W' H') {a : Addr} {vs : List V} (h : ScrAt G W H a vs) : ScrAt G W' H' a vs := by
  rcases h with ⟨f, h⟩ | h
  · exact .inl ⟨x.f a f, Rd.fz (fun o => x.fk a o f) (fun ps z => by cases z) h⟩
  · exact .inr h
mutual
theorem Rep.ext (x : Lk W H W' H') : ∀ {d : D} {v : V}, Rep G W H d v → Rep G W' H' d v
  | .non, _, h => h
  | .bl _, _, h => h
  | .int _, _, h => h
  | .str _, _, h => h
  | .tup ds, _, ⟨a, vs, e, t, r⟩ => ⟨a, vs, e, t.ext x, Reps.ext x r⟩
  | .lst ds, _, ⟨a, vs, e, t, r⟩ => ⟨a, vs, e, t.ext x, Reps.ext x r⟩
  | .dic ds, _, ⟨a, vs, e, ⟨f, t⟩, r⟩ => ⟨a, vs, e, ⟨x.f a f, x.fk a _ f t fun ps z => by cases z⟩, RepK.ext x r⟩
  | .dit ds, _, ⟨a, vs, e, ⟨f, t⟩, r⟩ => ⟨a, vs, e, ⟨x.f a f, x.fk a _ f t fun ps z => by cases z⟩, RepT.ext x r⟩
  | .ref n, _, ⟨a, e, h⟩ => ⟨a, e, x.m n a h⟩
  | .lam n, _, ⟨a, e, p, b, sc, q, v1, v2, c, h1, h2, h3⟩ => ⟨a, e, p, b, sc, q, v1, v2, c, h1, x.l _ _ h2, x.l _ _ h3⟩
  | .scr ds, _, ⟨a, vs, e, t, r⟩ => ⟨a, vs, e, t.ext x, Reps.ext x r⟩
theorem Reps.ext (x : Lk W H W' H') : ∀ {ds : List D} {vs : List V}, Reps G W H ds vs → Reps G W' H' ds vs
  | [], _, h => h
  | d :: ds, _, ⟨v, r, e, h, t⟩ => ⟨v, r, e, Rep.ext x h, Reps.ext x t⟩
theorem RepK.ext (x : Lk W H W' H') : ∀ {ds : List (K1 × D)} {vs : List (Key × V)}, RepK G W H ds vs → RepK G W' H' ds vs
  | [], _, h => h
  | (k, d) :: ds, _, ⟨v, r, e, h, t⟩ => ⟨v, r, e, Rep.ext x h, RepK.ext x t⟩
theorem RepT.ext (x : Lk W H W' H') : ∀ {ds : List (List K1 × D)} {vs : List (List Key × V)}, RepT G W H ds vs → RepT G W' H' ds vs
  | [], _, h => h
  | (k, d) :: ds, _, ⟨v, r, e, h, t⟩ => ⟨v, r, e, Rep.ext x h, RepT.ext x t⟩
end
theorem RepF.ext (x : Lk W H W' H') : ∀ {ds : List (List Nat × D)} {vs : List (Str × V)}, RepF G W H ds vs → RepF G W' H' ds vs
  | [], _, h => h
  | (k, d) :: ds, _, ⟨v, r, e, h, t⟩ => ⟨v, r, e, Rep.ext x h, RepF.ext x t⟩
end
end Z

/-! Z2: the state, what is made and written, the frame -/
namespace Z
open PySem PySem.Spec PyProof.Rows L2

/-- lambdas stay in their def -/
def Wd.nl (W : Wd) : Wd := { W with lam := fun _ => none }
def CellRep (G : Gl) (W : Wd) (H : Hp) (a : Addr) : Cell → Prop
  | .box (.lst ds) => ∃ vs, H a = some (.lst vs) ∧ Reps G W H ds vs
  | .box (.dic ds) => ∃ vs, H a = some (.dK vs) ∧ RepK G W H ds vs
  | .box (.dit ds) => ∃ vs, H a = some (.dT vs) ∧ RepT G W H ds vs
  | .box _ => False
  | .ins c fs => ∃ dx vfs, H a = some (.ins (G.ca c) dx vfs) ∧ RepF G W H fs vfs
structure St0 (G : Gl) (W : Wd) (H : Hp) (hp : Hc) : Prop where
  cells : ∀ n c, hp[n]? = some c → ∃ a, W.m n = some a ∧ CellRep G W.nl H a c
  dom : ∀ n a, W.m n = some a → n < hp.length
  inj : ∀ n k a, W.m n = some a → W.m k = some a → n = k
  nfz : ∀ n a, W.m n = some a → ¬ W.fz a
  ft : ∀ a, W.fz a → H a ≠ none
  tl : LamX.Tabs G.tl H
  tb : ∀ a ps, H a = some (.tbl ps) → True

section
variable {G : Gl} {W W' : Wd} {H H' : Hp} {hp : Hc}
theorem Lk.nl (x : Lk W H W' H') : Lk W.nl H W'.nl H' := ⟨x.m, x.f, x.l, x.fk⟩
theorem CellRep.ext (x : Lk W H W' H') {a : Addr} {c : Cell} (e : H' a = H a) (h : CellRep G W H a c) : CellRep G W' H' a c := by
  cases c with
  | box d =>
    cases d with
    | lst ds => obtain ⟨vs, q, r⟩ := h; exact ⟨vs, e.trans q, r.ext x⟩
    | dic ds => obtain ⟨vs, q, r⟩ := h; exact ⟨vs, e.trans q, r.ext x⟩
    | dit ds => obtain ⟨vs, q, r⟩ := h; exact ⟨vs, e.trans q, r.ext x⟩
    | _ => exact h.elim
  | ins c fs => obtain ⟨dx, vfs, q, r⟩ := h; exact ⟨dx, vfs, e.trans q, r.ext x⟩
theorem CellRep.noExt {a : Addr} {c : Cell} (h : CellRep G W H a c) {φ : Heap → Prop} : H a ≠ some (.ext φ) := fun z => by
  cases c with
  | box d =>
    cases d with
    | lst ds => obtain ⟨vs, q, _⟩ := h; rw [q] at z; cases z
    | dic ds => obtain ⟨vs, q, _⟩ := h; rw [q] at z; cases z
    | dit ds => obtain ⟨vs, q, _⟩ := h; rw [q] at z; cases z
    | _ => exact h.elim
  | ins c fs => obtain ⟨dx, vfs, q, _⟩ := h; rw [q] at z; cases z
/-- what a world says of tracked places -/
theorem St0.mt (s : St0 G W H hp) {n : Nat} {a : Addr} (h : W.m n = some a) : H a ≠ none := by
  have hl := s.dom n a h
  obtain ⟨a', e, c⟩ := s.cells n _ (List.getElem?_eq_getElem hl)
  rw [h] at e
  cases e
  intro q
  cases hc : hp[n] with
  | box d =>
    rw [hc] at c
    cases d with
    | lst ds => obtain ⟨vs, z, _⟩ := c; rw [q] at z; cases z
    | dic ds => obtain ⟨vs, z, _⟩ := c; rw [q] at z; cases z
    | dit ds => obtain ⟨vs, z, _⟩ := c; rw [q] at z; cases z
    | _ => exact c.elim
  | ins c' fs =>
    rw [hc] at c
    obtain ⟨dx, vfs, z, _⟩ := c; rw [q] at z; cases z
theorem tabs_new {tl : List (Addr × Str)} (h : LamX.Tabs tl H) {p : Addr} {o : HO} (e : H p = none) : LamX.Tabs tl (upd H p o) :=
  h.ext fun b u q => by rw [upd_ne (ne_of_none q e)]; exact q
theorem tabG_new {P : Addr} (h : GxR.TabG H P) {p : Addr} {o : HO} (e : H p = none) : GxR.TabG (upd H p o) P := by
  obtain ⟨ps, q, t⟩ := h
  exact ⟨ps, by rw [upd_ne (ne_of_none q e)]; exact q, t⟩
/-- a place that holds something other than a table is written over by such -/
theorem tabs_set {tl : List (Addr × Str)} (h : LamX.Tabs tl H) {p : Addr} {o o' : HO} (e : H p = some o) (n : noTbl o) (nc : ∀ q, o ≠ LamX.CodeO p q) : LamX.Tabs tl (upd H p o') := fun t ht => by
  obtain ⟨ps, h1, h2, h3⟩ := h t ht
  refine ⟨ps, ?_, h2, fun pos cv hc => ?_⟩
  · rw [upd_ne (fun z => n ps (by rw [z] at h1; rw [e] at h1; exact Option.some.inj h1))]
    exact h1
  · obtain ⟨c, e1, e2⟩ := h3 pos cv hc
    refine ⟨c, e1, ?_⟩
    rw [upd_ne (fun z => by rw [z, e] at e2; exact nc _ (Option.some.inj e2))]
    exact e2
theorem tabG_set {P : Addr} (h : GxR.TabG H P) {p : Addr} {o o' : HO} (e : H p = some o) (n : noTbl o) : GxR.TabG (upd H p o') P := by
  obtain ⟨ps, q, t⟩ := h
  exact ⟨ps, by rw [upd_ne (fun z => n ps (by rw [z] at q; rw [e] at q; exact Option.some.inj q))]; exact q, t⟩

/-! ### a thing is made that is never written -/
def Wd.fzA (W : Wd) (p : Addr) : Wd := { W with fz := fun a => W.fz a ∨ a = p }
theorem ext_fz {p : Addr} {o : HO} (s : St0 G W H hp) (e : H p = none) : Ext W H (W.fzA p) (upd H p o) where
  m := fun _ _ h => h
  f := fun _ h => .inl h
  l := fun a φ h => by rw [upd_ne (ne_of_none h e)]; exact h
  k := fun a u h _ _ => by rw [upd_ne (ne_of_none h e)]; exact h
  fk := fun a o h q _ => by rw [upd_ne (fun z => s.ft a h (by rw [z]; exact e))]; exact q
  t := fun a h => by
    unfold upd
    split
    · simp
    · exact h
  nf := fun a h => h.elim .inl fun z => .inr (by rw [z]; exact e)
  nm := fun _ _ h => .inl h
theorem st_fz {p : Addr} {o : HO} (s : St0 G W H hp) (e : H p = none) (no : noTbl o := by intro ps z; cases z) : St0 G (W.fzA p) (upd H p o) hp where
  cells := fun n c h => by
    obtain ⟨a, ha, r⟩ := s.cells n c h
    exact ⟨a, ha, r.ext (W' := (W.fzA p).nl) (ext_fz s e).toLk.nl (upd_ne fun z => s.mt ha (by rw [z]; exact e))⟩
  dom := s.dom
  inj := s.inj
  nfz := fun n a h z => z.elim (s.nfz n a h) fun q => s.mt h (by rw [q]; exact e)
  ft := fun a h => by
    unfold upd
    split
    · simp
    · exact h.elim (s.ft a) fun z => by contradiction
  tl := tabs_new s.tl e
  tb := fun a ps h => by
    unfold upd at h
    split at h
    · cases h; exact absurd rfl (no ps)
    · exact s.tb a ps h
theorem fz_tup {p : Addr} {vs : List V} : TupAt G (W.fzA p) (upd H p (.tup vs)) p vs := .inl ⟨.inr rfl, .inl upd_same⟩
theorem fz_lst {p : Addr} {vs : List V} : LstAt G (W.fzA p) (upd H p (.lst vs)) p vs := ⟨.inr rfl, upd_same⟩
/-! ### a thing is made that a slot will own: nothing is said of it -/
theorem ext_own {p : Addr} {o : HO} (s : St0 G W H hp) (e : H p = none) : Ext W H W (upd H p o) where
  m := fun _ _ h => h
  f := fun _ h => h
  l := fun a φ h => by rw [upd_ne (ne_of_none h e)]; exact h
  k := fun a u h _ _ => by rw [upd_ne (ne_of_none h e)]; exact h
  fk := fun a o h q _ => by rw [upd_ne (fun z => s.ft a h (by rw [z]; exact e))]; exact q
  t := fun a h => by
    unfold upd
    split
    · simp
    · exact h
  nf := fun a h => .inl h
  nm := fun _ _ h => .inl h
theorem st_own {p : Addr} {o : HO} (s : St0 G W H hp) (e : H p = none) (no : noTbl o := by intro ps z; cases z) : St0 G W (upd H p o) hp where
  cells := fun n c h => by
    obtain ⟨a, ha, r⟩ := s.cells n c h
    exact ⟨a, ha, r.ext (W' := W.nl) (ext_own s e).toLk.nl (upd_ne fun z => s.mt ha (by rw [z]; exact e))⟩
  dom := s.dom
  inj := s.inj
  nfz := s.nfz
  ft := fun a h => by
    unfold upd
    split
    · simp
    · exact s.ft a h
  tl := tabs_new s.tl e
  tb := fun a ps h => by
    unfold upd at h
    split at h
    · cases h; exact absurd rfl (no ps)
    · exact s.tb a ps h
/-! ### a place that a slot owns is written -/
theorem lk_out {p : Addr} {o' : HO} (hf : ¬ W.fz p) (he : ∀ φ, H p ≠ some (.ext φ)) : Lk W H W (upd H p o') := ⟨fun _ _ h => h, fun _ h => h, fun a φ h => by rw [upd_ne fun z => he φ (by rw [← z]; exact h)]; exact h, fun a o h q _ => by rw [upd_ne fun z => hf (by rw [← z]; exact h)]; exact q⟩
theorem st_out {p : Addr} {o o' : HO} (s : St0 G W H hp) (e : H p = some o) (hf : ¬ W.fz p) (hm : ∀ n, W.m n ≠ some p) (n : noTbl o) (nc : ∀ q, o ≠ LamX.CodeO p q) (hx : ∀ φ, o ≠ .ext φ) (no : noTbl o' := by intro ps z; cases z) : St0 G W (upd H p o') hp where
  cells := fun k c h => by
    obtain ⟨a, ha, r⟩ := s.cells k c h
    exact ⟨a, ha, r.ext (W' := W.nl) (lk_out (W := W.nl) hf fun φ z => by rw [e] at z; exact hx φ (Option.some.inj z)) (upd_ne fun z => hm k (by rw [← z]; exact ha))⟩
  dom := s.dom
  inj := s.inj
  nfz := s.nfz
  ft := fun a h => by
    unfold upd
    split
    · simp
    · exact s.ft a h
  tl := tabs_set s.tl e n nc
  tb := fun a ps h => by
    unfold upd at h
    split at h
    · cases h; exact absurd rfl (no ps)
    · exact s.tb a ps h
/-! ### a box is made, a box is written -/
def Wd.box (W : Wd) (n : Nat) (p : Addr) : Wd := { W with m := fun k => if k = n then some p else W.m k }
theorem ext_box {p : Addr} {o : HO} (s : St0 G W H hp) (e : H p = none) : Ext W H (W.box hp.length p) (upd H p o) where
  m := fun n a h => by
    show (if n = hp.length then some p else W.m n) = some a
    rw [if_neg (Nat.ne_of_lt (s.dom n a h))]
    exact h
  f := fun _ h => h
  l := fun a φ h => by rw [upd_ne (ne_of_none h e)]; exact h
  fk := fun a o h q _ => by rw [upd_ne (fun z => s.ft a h (by rw [z]; exact e))]; exact q
  k := fun a u h _ _ => by rw [upd_ne (ne_of_none h e)]; exact h
  t := fun a h => by
    unfold upd
    split
    · simp
    · exact h
  nf := fun a h => .inl h
  nm := fun n a h => by
    have h : (if n = hp.length then some p else W.m n) = some a := h
    split at h
    · cases h; exact .inr e
    · exact .inl h
theorem st_box {p : Addr} {o : HO} {c : Cell} (s : St0 G W H hp) (e : H p = none) (hc : CellRep G (W.box hp.length p).nl (upd H p o) p c) (no : noTbl o := by intro ps z; cases z) : St0 G (W.box hp.length p) (upd H p o) (hp ++ [c]) where
  cells := fun n c' h => by
    by_cases hn : n < hp.length
    · rw [List.getElem?_append_left hn] at h
      obtain ⟨a, ha, r⟩ := s.cells n c' h
      refine ⟨a, (ext_box (o := o) s e).m n a ha, r.ext (ext_box (o := o) s e).toLk.nl (upd_ne fun z => s.mt ha (by rw [z]; exact e))⟩
    · rw [List.getElem?_append_right (Nat.le_of_not_lt hn)] at h
      have hz : n - hp.length = 0 := by
        have h1 := (List.getElem?_eq_some_iff.mp h).1
        simp at h1
        omega
      rw [hz] at h
      cases h
      have en : n = hp.length := by omega
      subst en
      exact ⟨p, by show (if hp.length = hp.length then some p else W.m hp.length) = some p; rw [if_pos rfl], hc⟩
  dom := fun n a h => by
    have h : (if n = hp.length then some p else W.m n) = some a := h
    rw [List.length_append, List.length_singleton]
    split at h
    · omega
    · have := s.dom n a h
      omega
  inj := fun n k a h1 h2 => by
    have h1 : (if n = hp.length then some p else W.m n) = some a := h1
    have h2 : (if k = hp.length then some p else W.m k) = some a := h2
    split at h1
    · split at h2
      · omega
      · cases h1; exact absurd e (s.mt h2)
    · split at h2
      · cases h2; exact absurd e (s.mt h1)
      · exact s.inj n k a h1 h2
  nfz := fun n a h => by
    have h : (if n = hp.length then some p else W.m n) = some a := h
    split at h
    · cases h; exact fun z => s.ft p z e
    · exact s.nfz n a h
  ft := fun a h => by
    unfold upd
    split
    · simp
    · exact s.ft a h
  tl := tabs_new s.tl e
  tb := fun a ps h => by
    unfold upd at h
    split at h
    · cases h; exact absurd rfl (no ps)
    · exact s.tb a ps h
theorem ext_set {n : Nat} {p : Addr} {o' : HO} (s : St0 G W H hp) (e : W.m n = some p) : Ext W H W (upd H p o') where
  m := fun _ _ h => h
  f := fun _ h => h
  l := fun a φ h => by
    rw [upd_ne fun z => ?_]
    · exact h
    · rw [z] at h
      obtain ⟨a', e', c⟩ := s.cells n _ (List.getElem?_eq_getElem (s.dom n p e))
      rw [e] at e'
      cases e'
      exact c.noExt h
  fk := fun a o h q _ => by rw [upd_ne fun z => s.nfz n p e (by rw [← z]; exact h)]; exact q
  k := fun a u h hn _ => by rw [upd_ne fun z => hn n (by rw [z]; exact e)]; exact h
  t := fun a h => by
    unfold upd
    split
    · simp
    · exact h
  nf := fun a h => .inl h
  nm := fun _ _ h => .inl h
theorem st_set {n : Nat} {p : Addr} {o o' : HO} {c : Cell} (s : St0 G W H hp) (e : W.m n = some p) (ho : H p = some o) (nt : noTbl o) (nc : ∀ q, o ≠ LamX.CodeO p q) (hc : CellRep G W.nl (upd H p o') p c) (no : noTbl o' := by intro ps z; cases z) : St0 G W (upd H p o') (hp.set n c) where
  cells := fun k c' h => by
    have x := (ext_set (o' := o') s e).toLk.nl
    by_cases hk : k = n
    · subst hk
      have h1 := (List.getElem?_eq_some_iff.mp h).1
      rw [List.length_set] at h1
      rw [List.getElem?_set_self h1] at h
      cases h
      exact ⟨p, e, hc⟩
    · rw [List.getElem?_set_ne (Ne.symm hk)] at h
      obtain ⟨a, ha, r⟩ := s.cells k c' h
      exact ⟨a, ha, r.ext x (upd_ne fun z => hk (s.inj k n p (by rw [← z]; exact ha) e))⟩
  dom := fun k a h => by rw [List.length_set]; exact s.dom k a h
  inj := s.inj
  nfz := s.nfz
  ft := fun a h => by
    unfold upd
    split
    · simp
    · exact s.ft a h
  tl := tabs_set s.tl ho nt nc
  tb := fun a ps h => by
    unfold upd at h
    split at h
    · cases h; exact absurd rfl (no ps)
    · exact s.tb a ps h
end

/-! ### the slots -/
def SlRep (G : Gl) (W : Wd) (H : Hp) : Sl → Option V → Prop
  | .u, _ => True
  | .v d, ov => ∃ v, ov = some v ∧ Rep G W H d v
  | .o (.lst ds), ov => ∃ a vs, ov = some (.ref a) ∧ H a = some (.lst vs) ∧ Reps G W H ds vs ∧ ¬ W.fz a ∧ ∀ n, W.m n ≠ some a
  | .o (.dic ds), ov => ∃ a vs, ov = some (.ref a) ∧ H a = some (.dK vs) ∧ RepK G W H ds vs ∧ ¬ W.fz a ∧ ∀ n, W.m n ≠ some a
  | .o (.dit ds), ov => ∃ a vs, ov = some (.ref a) ∧ H a = some (.dT vs) ∧ RepT G W H ds vs ∧ ¬ W.fz a ∧ ∀ n, W.m n ≠ some a
  | .o _, _ => False
/-- slot i owns what stands at a -/
def Owns (ρ : Rho) (σ : L2.St) (i : Nat) (a : Addr) : Prop := (∃ d, ρ[i]? = some (.o d)) ∧ σ[i]? = some (some (.ref a))
structure EnvRep (G : Gl) (H0 : Hp) (W : Wd) (H : Hp) (ρ : Rho) (σ : L2.St) : Prop where
  len : ρ.length = σ.length
  at_ : ∀ (i : Nat) (s : Sl) (ov : Option V), ρ[i]? = some s → σ[i]? = some ov → SlRep G W H s ov
  ap : ∀ i j a, Owns ρ σ i a → Owns ρ σ j a → i = j
  nw : ∀ i a, Owns ρ σ i a → H0 a = none
theorem SlRep.ext {G : Gl} {W W' : Wd} {H H' : Hp} (x : Ext W H W' H') {s : Sl} {ov : Option V} (h : SlRep G W H s ov) : SlRep G W' H' s ov := by
  have nn : ∀ (a : Addr) (o : HO), H a = some o → ¬ W.fz a → (∀ n, W.m n ≠ some a) → ¬ W'.fz a ∧ ∀ n, W'.m n ≠ some a := fun a o e f m =>
    ⟨fun z => (x.nf a z).elim f fun q => (by rw [e] at q; cases q), fun n z => (x.nm n a z).elim (m n) fun q => (by rw [e] at q; cases q)⟩
  cases s with
  | u => trivial
  | v d => obtain ⟨v, e, r⟩ := h; exact ⟨v, e, r.ext x.toLk⟩
  | o d =>
    cases d with
    | lst ds =>
      obtain ⟨a, vs, e, q, r, f, m⟩ := h
      exact ⟨a, vs, e, x.k a _ q m (fun ps z => by cases z), r.ext x.toLk, nn a _ q f m⟩
    | dic ds =>
      obtain ⟨a, vs, e, q, r, f, m⟩ := h
      exact ⟨a, vs, e, x.k a _ q m (fun ps z => by cases z), r.ext x.toLk, nn a _ q f m⟩
    | dit ds =>
      obtain ⟨a, vs, e, q, r, f, m⟩ := h
      exact ⟨a, vs, e, x.k a _ q m (fun ps z => by cases z), r.ext x.toLk, nn a _ q f m⟩
    | _ => exact h.elim
theorem EnvRep.ext {G : Gl} {H0 : Hp} {W W' : Wd} {H H' : Hp} {ρ : Rho} {σ : L2.St} (x : Ext W H W' H') (h : EnvRep G H0 W H ρ σ) : EnvRep G H0 W' H' ρ σ :=
  ⟨h.len, fun i s ov a b => (h.at_ i s ov a b).ext x, h.ap, h.nw⟩
/-- a frame: what is fixed, its world and heap at the entry -/
structure Fr where
  G : Gl
  W0 : Wd
  H0 : Hp
structure Gd (F : Fr) (W : Wd) (ρ : Rho) (hp : Hc) (σ : L2.St) (H : Hp) : Prop where
  x0 : Ext F.W0 F.H0 W H
  env : EnvRep F.G F.H0 W H ρ σ
  st : St0 F.G W H hp
theorem Gd.ext {F : Fr} {W W' : Wd} {ρ : Rho} {hp hp' : Hc} {σ : L2.St} {H H' : Hp} (g : Gd F W ρ hp σ H) (x : Ext W H W' H') (s : St0 F.G W' H' hp') : Gd F W' ρ hp' σ H' := ⟨g.x0.trans x, g.env.ext x, s⟩
/-- a slot that is read -/
theorem Gd.slot {F : Fr} {W : Wd} {ρ : Rho} {hp : Hc} {σ : L2.St} {H : Hp} (g : Gd F W ρ hp σ H) {i : Nat} {s : Sl} (e : ρ[i]? = some s) : ∃ ov, σ[i]? = some ov ∧ SlRep F.G W H s ov := by
  have h1 := (List.getElem?_eq_some_iff.mp e).1
  rw [g.env.len] at h1
  exact ⟨σ[i], List.getElem?_eq_getElem h1, g.env.at_ i s _ e (List.getElem?_eq_getElem h1)⟩

/-! ### what a run gives -/
inductive R (α : Type) where
  | ok (a : α) (h : Hc)
  | ex (c : Nat) (h : Hc)
  | bad
  deriving Inhabited
inductive O where
  | nx (ρ : Rho) (h : Hc) | rt (d : D) (h : Hc) | bk (ρ : Rho) (h : Hc) | ct (ρ : Rho) (h : Hc)
  | ex (c : Nat) (ρ : Rho) (h : Hc)
  | bad
  deriving Inhabited
abbrev EM := Rho → Hc → R D
abbrev TM := Rho → Hc → R Bool
abbrev AM := Rho → Hc → R (List D)
abbrev SM := Rho → Hc → O
abbrev FM := List D → Hc → R D

/-- what a run's answer asks of what follows -/
def Fin {α β : Type} (F : Fr) (wx : WX) (σ : L2.St) (rel : Wd → Hp → α → β → Prop) (W : Wd) (H : Hp) (Q : β → Hp → Prop) : R α → Prop
  | .ok d hp' => ∀ W' v H', Ext W H W' H' → St0 F.G W' H' hp' → rel W' H' d v → Q v H'
  | .ex c hp' => ∀ W' H', Ext W H W' H' → St0 F.G W' H' hp' → wx (.ref (F.G.ca c)) none σ H'
  | .bad => False
def TrE (F : Fr) (wx : WX) (em : EM) : TE := fun σ H Q => ∃ W ρ hp, Gd F W ρ hp σ H ∧ Fin F wx σ (Rep F.G) W H Q (em ρ hp)
def TrT (F : Fr) (wx : WX) (tm : TM) : TT := fun σ H Q => ∃ W ρ hp, Gd F W ρ hp σ H ∧ Fin F wx σ (fun _ _ b c => b = c) W H Q (tm ρ hp)
def TrA (F : Fr) (wx : WX) (am : AM) : TA := fun σ H Q => ∃ W ρ hp, Gd F W ρ hp σ H ∧ Fin F wx σ (Reps F.G) W H Q (am ρ hp)
/-- a value that is only looked at -/
def RepB (G : Gl) (W : Wd) (H : Hp) : D → V → Prop
  | .lst ds, v => ∃ a vs, v = .ref a ∧ (H a = some (.lst vs) ∧ ∀ n, W.m n ≠ some a) ∧ Reps G W H ds vs
  | .dic ds, v => ∃ a vs, v = .ref a ∧ (H a = some (.dK vs) ∧ ∀ n, W.m n ≠ some a) ∧ RepK G W H ds vs
  | .dit ds, v => ∃ a vs, v = .ref a ∧ (H a = some (.dT vs) ∧ ∀ n, W.m n ≠ some a) ∧ RepT G W H ds vs
  | d, v => Rep G W H d v
def TrB (F : Fr) (wx : WX) (em : EM) : TE := fun σ H Q => ∃ W ρ hp, Gd F W ρ hp σ H ∧ Fin F wx σ (RepB F.G) W H Q (em ρ hp)
theorem RepB.ext {G : Gl} {W W' : Wd} {H H' : Hp} (x : Ext W H W' H') {d : D} {v : V} (h : RepB G W H d v) : RepB G W' H' d v := by
  have nn : ∀ (a : Addr) (o : HO), H a = some o → (∀ n, W.m n ≠ some a) → ∀ n, W'.m n ≠ some a := fun a o e m n z => (x.nm n a z).elim (m n) fun q => by rw [e] at q; cases q
  cases d with
  | lst ds =>
    obtain ⟨a, vs, e, ⟨q, m⟩, r⟩ := h
    exact ⟨a, vs, e, ⟨x.k a _ q m (fun ps z => by cases z), nn a _ q m⟩, r.ext x.toLk⟩
  | dic ds =>
    obtain ⟨a, vs, e, ⟨q, m⟩, r⟩ := h
    exact ⟨a, vs, e, ⟨x.k a _ q m (fun ps z => by cases z), nn a _ q m⟩, r.ext x.toLk⟩
  | dit ds =>
    obtain ⟨a, vs, e, ⟨q, m⟩, r⟩ := h
    exact ⟨a, vs, e, ⟨x.k a _ q m (fun ps z => by cases z), nn a _ q m⟩, r.ext x.toLk⟩
  | non => exact Rep.ext x.toLk h
  | bl _ => exact Rep.ext x.toLk h
  | int _ => exact Rep.ext x.toLk h
  | str _ => exact Rep.ext x.toLk h
  | tup _ => exact Rep.ext x.toLk h
  | ref _ => exact Rep.ext x.toLk h
  | lam _ => exact Rep.ext x.toLk h
  | scr _ => exact Rep.ext x.toLk h
theorem Rep.toB {G : Gl} {W : Wd} {H : Hp} {hp : Hc} (s : St0 G W H hp) {d : D} {v : V} (h : Rep G W H d v) : RepB G W H d v := by
  have nn : ∀ a, W.fz a → ∀ n, W.m n ≠ some a := fun a f n e => s.nfz n a e f
  cases d with
  | lst ds =>
    obtain ⟨a, vs, e, ⟨f, q⟩, r⟩ := h
    exact ⟨a, vs, e, ⟨q, nn a f⟩, r⟩
  | dic ds => obtain ⟨a, vs, e, ⟨f, q⟩, r⟩ := h; exact ⟨a, vs, e, ⟨q, nn a f⟩, r⟩
  | dit ds => obtain ⟨a, vs, e, ⟨f, q⟩, r⟩ := h; exact ⟨a, vs, e, ⟨q, nn a f⟩, r⟩
  | non => exact h
  | bl _ => exact h
  | int _ => exact h
  | str _ => exact h
  | tup _ => exact h
  | ref _ => exact h
  | lam _ => exact h
  | scr _ => exact h
end Z

/-! Z3: expressions -/
namespace Z
open PySem PySem.Spec PyProof.Rows L2

def R.bind {α β : Type} (r : R α) (k : α → Hc → R β) : R β := match r with
  | .ok a h => k a h
  | .ex c h => .ex c h
  | .bad => .bad
@[simp] theorem R.bind_ok {α β : Type} (a : α) (h : Hc) (k : α → Hc → R β) : (R.ok a h).bind k = k a h := rfl
@[simp] theorem R.bind_ex {α β : Type} (c : Nat) (h : Hc) (k : α → Hc → R β) : (R.ex c h : R α).bind k = .ex c h := rfl
@[simp] theorem R.bind_bad {α β : Type} (k : α → Hc → R β) : (R.bad : R α).bind k = .bad := rfl

structure Xk (F : Fr) (X : Cx) (wx : WX) : Prop where
  K : F.G.K = X.K
  tk : Takes X wx
  calm : X.calm = true
  nd : X.N.Nodup
theorem PE.imp {X : Cx} {e : Expr} {t t' : TE} (h : PE X e t) (k : ∀ σ H Q, t' σ H Q → t σ H Q) : PE X e t' := ⟨fun p s σ H Q I q => h.run p s σ H Q I (k σ H Q q)⟩
theorem PT.imp {X : Cx} {e : Expr} {t t' : TT} (h : PT X e t) (k : ∀ σ H Q, t' σ H Q → t σ H Q) : PT X e t' := ⟨fun p s σ H Q I q => h.run p s σ H Q I (k σ H Q q)⟩
theorem PA.imp {X : Cx} {e : List Expr} {t t' : TA} (h : PA X e t) (k : ∀ σ H Q, t' σ H Q → t σ H Q) : PA X e t' := ⟨fun pos p s σ H Q I q => h.run pos p s σ H Q I (k σ H Q q)⟩
theorem PS.imp {X : Cx} {e : Stmt} {t t' : TS} (h : PS X e t) (k : ∀ D σ H, t' D σ H → t D σ H) : PS X e t' := ⟨fun p s σ H D I q => h.run p s σ H D I (k D σ H q)⟩
theorem PSs.imp {X : Cx} {e : List Stmt} {t t' : TS} (h : PSs X e t) (k : ∀ D σ H, t' D σ H → t D σ H) : PSs X e t' := ⟨fun p s σ H D I q => h.run p s σ H D I (k D σ H q)⟩

section
variable {F : Fr} {X : Cx} {wx : WX} {σ : L2.St} {W W' : Wd} {H H' : Hp}
theorem Fin.ext {α β : Type} {rel : Wd → Hp → α → β → Prop} {Q : β → Hp → Prop} {r : R α} (x : Ext W H W' H') (h : Fin F wx σ rel W H Q r) : Fin F wx σ rel W' H' Q r := by
  cases r with
  | ok d hp => exact fun W2 v H2 x2 => h W2 v H2 (x.trans x2)
  | ex c hp => exact fun W2 H2 x2 => h W2 H2 (x.trans x2)
  | bad => exact h
theorem Fin.bind {α β α' β' : Type} {rel : Wd → Hp → α → β → Prop} {rel' : Wd → Hp → α' → β' → Prop} {Q : β → Hp → Prop} {Q' : β' → Hp → Prop} {r : R α} {k : α → Hc → R α'} (h : Fin F wx σ rel' W H Q' (r.bind k))
    (nx : ∀ d hp' W' v H', Ext W H W' H' → St0 F.G W' H' hp' → rel W' H' d v → Fin F wx σ rel' W' H' Q' (k d hp') → Q v H') : Fin F wx σ rel W H Q r := by
  cases r with
  | ok d hp => exact fun W2 v H2 x2 s2 r2 => nx d hp W2 v H2 x2 s2 r2 (Fin.ext x2 h)
  | ex c hp => exact h
  | bad => exact h
/-- the answer at once -/
theorem Fin.here {α β : Type} {rel : Wd → Hp → α → β → Prop} {Q : β → Hp → Prop} {d : α} {hp : Hc} {v : β} (h : Fin F wx σ rel W H Q (.ok d hp)) (s : St0 F.G W H hp) (r : rel W H d v) : Q v H := h W v H (Ext.refl W H) s r

/-! ### names, constants -/
def eC (d : D) : EM := fun _ h => .ok d h
def eVar (i : Nat) : EM := fun ρ h => match ρ[i]? with
  | some (.v d) => .ok d h
  | _ => .bad
/-- a name that is only looked at -/
def eLook (i : Nat) : EM := fun ρ h => match ρ[i]? with
  | some (.v d) => .ok d h
  | some (.o d) => .ok d h
  | _ => .bad
theorem e_var {i : Nat} {x : Str} {pos : Pos} (hN : X.N[i]? = some x := by rfl) (hv : Vis X.env.scope x := by first | exact Or.inl rfl | exact Or.inr (Or.inl rfl) | exact Or.inr (Or.inr rfl)) (hd : (x == ("__debug__" : Str)) = false := by decide)
    (hcd : (x == ("__classdict__" : Str)) = false := by decide) : PE X (.Name x pos) (TrE F wx (eVar i)) :=
  PE.imp (pe_var hN hv hd hcd) fun σ H Q ⟨W, ρ, hp, g, h⟩ => by
    unfold eVar at h
    cases e : ρ[i]? with
    | none => rw [e] at h; exact h.elim
    | some s =>
      rw [e] at h
      cases s with
      | u => exact h.elim
      | o d => exact h.elim
      | v d =>
        obtain ⟨ov, e2, v, e3, r⟩ := g.slot e
        subst e3
        exact ⟨v, e2, Fin.here h g.st r⟩
theorem b_look {i : Nat} {x : Str} {pos : Pos} (hN : X.N[i]? = some x := by rfl) (hv : Vis X.env.scope x := by first | exact Or.inl rfl | exact Or.inr (Or.inl rfl) | exact Or.inr (Or.inr rfl)) (hd : (x == ("__debug__" : Str)) = false := by decide)
    (hcd : (x == ("__classdict__" : Str)) = false := by decide) : PE X (.Name x pos) (TrB F wx (eLook i)) :=
  PE.imp (pe_var hN hv hd hcd) fun σ H Q ⟨W, ρ, hp, g, h⟩ => by
    unfold eLook at h
    cases e : ρ[i]? with
    | none => rw [e] at h; exact h.elim
    | some s =>
      rw [e] at h
      obtain ⟨ov, e2, q⟩ := g.slot e
      cases s with
      | u => exact h.elim
      | v d =>
        obtain ⟨v, e3, r⟩ := q
        subst e3
        exact ⟨v, e2, Fin.here h g.st (r.toB g.st)⟩
      | o d =>
        cases d with
        | lst ds =>
          obtain ⟨a, vs, e3, q, r, f, m⟩ := q
          subst e3
          exact ⟨_, e2, Fin.here h g.st ⟨a, vs, rfl, ⟨q, m⟩, r⟩⟩
        | dic ds =>
          obtain ⟨a, vs, e3, q, r, f, m⟩ := q
          subst e3
          exact ⟨_, e2, Fin.here h g.st ⟨a, vs, rfl, ⟨q, m⟩, r⟩⟩
        | dit ds =>
          obtain ⟨a, vs, e3, q, r, f, m⟩ := q
          subst e3
          exact ⟨_, e2, Fin.here h g.st ⟨a, vs, rfl, ⟨q, m⟩, r⟩⟩
        | _ => exact q.elim
theorem toB {e : Expr} {em : EM} (h : PE X e (TrE F wx em)) : PE X e (TrB F wx em) := PE.imp h fun σ H Q ⟨W, ρ, hp, g, q⟩ => ⟨W, ρ, hp, g, by
  cases z : em ρ hp with
  | ok d hp' => rw [z] at q; exact fun W' v H' x s r => q W' v H' x s (r.toB s)
  | ex c hp' => rw [z] at q; exact q
  | bad => rw [z] at q; exact q⟩
theorem e_int {i j pos} : PE X (.Constant (.int i) j pos) (TrE F wx (eC (.int i))) := PE.imp pe_int fun σ H Q ⟨W, ρ, hp, g, h⟩ => Fin.here h g.st rfl
theorem e_bl {b j pos} : PE X (.Constant (.bool b) j pos) (TrE F wx (eC (.bl b))) := PE.imp pe_bl fun σ H Q ⟨W, ρ, hp, g, h⟩ => Fin.here h g.st rfl
theorem e_non {j pos} : PE X (.Constant .none j pos) (TrE F wx (eC .non)) := PE.imp pe_non fun σ H Q ⟨W, ρ, hp, g, h⟩ => Fin.here h g.st rfl
theorem e_str {x : Str} {l : List Nat} {j pos} (hx : x = ⟨l.toArray⟩ := by rfl) (ho : okS l := by rfl) : PE X (.Constant (.str x) j pos) (TrE F wx (eC (.str l))) := PE.imp pe_str fun σ H Q ⟨W, ρ, hp, g, h⟩ => Fin.here h g.st ⟨by rw [hx], ho⟩

/-! ### two-place operators -/
def eBin (op : D → D → Hc → R D) (a b : EM) : EM := fun ρ h => (a ρ h).bind fun x h1 => (b ρ h1).bind fun y h2 => op x y h2
abbrev RelD := Wd → Hp → D → V → Prop
/-- what an operator does with data is what it does with values -/
def OpS (F : Fr) (rx ry : RelD) (op : D → D → Hc → R D) (r : R2) : Prop :=
  ∀ (wx : WX) (σ : L2.St) (W : Wd) (H : Hp) (hp : Hc) (x y : D) (v u : V) (Q : VK), St0 F.G W H hp → rx W H x v → ry W H y u → Fin F wx σ (Rep F.G) W H Q (op x y hp) → r v u H Q
def Tr (rel : Gl → RelD) (F : Fr) (wx : WX) (em : EM) : TE := fun σ H Q => ∃ W ρ hp, Gd F W ρ hp σ H ∧ Fin F wx σ (rel F.G) W H Q (em ρ hp)
def Mono (rx : RelD) : Prop := ∀ (W : Wd) (H : Hp) (W' : Wd) (H' : Hp) (d : D) (v : V), Ext W H W' H' → rx W H d v → rx W' H' d v
theorem mono_rep {G : Gl} : Mono (Rep G) := fun _ _ _ _ _ _ x r => Rep.ext x.toLk r
theorem mono_repB {G : Gl} : Mono (RepB G) := fun _ _ _ _ _ _ x r => RepB.ext x r
theorem bin_imp {rx ry : RelD} {op : D → D → Hc → R D} {r : R2} {a b : EM} (hx : Mono rx) (hs : OpS F rx ry op r) {H : Hp} {Q : VK} {W : Wd} {ρ : Rho} {hp : Hc} (g : Gd F W ρ hp σ H)
    (h : Fin F wx σ (Rep F.G) W H Q (eBin op a b ρ hp)) :
    Fin F wx σ rx W H (fun x H1 => ∃ W ρ hp, Gd F W ρ hp σ H1 ∧ Fin F wx σ ry W H1 (fun y H2 => r x y H2 Q) (b ρ hp)) (a ρ hp) := by
  refine Fin.bind h fun d hp1 W1 v H1 x1 s1 r1 h1 => ⟨W1, ρ, hp1, g.ext x1 s1, ?_⟩
  refine Fin.bind h1 fun e hp2 W2 u H2 x2 s2 r2 h2 => ?_
  exact hs wx σ W2 H2 hp2 d e v u Q s2 (hx _ _ _ _ _ _ x2 r1) r2 h2
theorem e_bin {op : D → D → Hc → R D} {o : Operator} {r : R2} {a b : Expr} {ea eb : EM} {pos : Pos} (ho : OpR X (binaryOp o) r) (hs : OpS F (Rep F.G) (Rep F.G) op r) (ha : PE X a (TrE F wx ea)) (hb : PE X b (TrE F wx eb)) : PE X (.BinOp a o b pos) (TrE F wx (eBin op ea eb)) :=
  PE.imp (pe_op ho ha hb) fun σ H Q ⟨W, ρ, hp, g, h⟩ => ⟨W, ρ, hp, g, bin_imp mono_rep hs g h⟩
theorem e_binB {op : D → D → Hc → R D} {o : Operator} {r : R2} {a b : Expr} {ea eb : EM} {pos : Pos} (ho : OpR X (binaryOp o) r) (hs : OpS F (RepB F.G) (RepB F.G) op r) (ha : PE X a (TrB F wx ea)) (hb : PE X b (TrB F wx eb)) : PE X (.BinOp a o b pos) (TrE F wx (eBin op ea eb)) :=
  PE.imp (pe_op ho ha hb) fun σ H Q ⟨W, ρ, hp, g, h⟩ => ⟨W, ρ, hp, g, bin_imp mono_repB hs g h⟩
theorem e_cmp {op : D → D → Hc → R D} {o : CmpOp} {r : R2} {a b : Expr} {ea eb : EM} {pos : Pos} (ho : OpR X (compareOp o) r) (hs : OpS F (RepB F.G) (RepB F.G) op r) (ha : PE X a (TrB F wx ea)) (hb : PE X b (TrB F wx eb)) (hm : behindInMarks o b = false := by first | exact nomark _ | rfl) : PE X (.Compare a [o] [b] pos) (TrE F wx (eBin op ea eb)) :=
  PE.imp (pe_cmpR ho ha hb hm) fun σ H Q ⟨W, ρ, hp, g, h⟩ => ⟨W, ρ, hp, g, bin_imp mono_repB hs g h⟩
end
end Z

/-! Z4: operators -/
namespace Z
open PySem PySem.Spec PyProof.Rows L2


theorem lim_ok {n : Nat} (h : n ≤ 16777216) : n ≤ sizeLine := by rw [sizeLine_eq]; exact h
theorem lim_lt {n : Nat} (h : n < 16777216) : n < sizeLine := by rw [sizeLine_eq]; exact h

/-- a box is opened -/
def unbox (hp : Hc) : D → D
  | .ref n => match hp[n]? with
    | some (.box d) => d
    | _ => .ref n
  | d => d
def RepU (G : Gl) (W : Wd) (H : Hp) : D → V → Prop
  | .lst ds, v => ∃ a vs, v = .ref a ∧ H a = some (.lst vs) ∧ Reps G W H ds vs
  | .dic ds, v => ∃ a vs, v = .ref a ∧ H a = some (.dK vs) ∧ RepK G W H ds vs
  | .dit ds, v => ∃ a vs, v = .ref a ∧ H a = some (.dT vs) ∧ RepT G W H ds vs
  | d, v => Rep G W H d v
section
variable {F : Fr} {X : Cx} {wx : WX} {σ : L2.St} {G : Gl} {W W' : Wd} {H H' : Hp} {hp : Hc}
theorem nl_lk : Lk W.nl H W H := ⟨fun _ _ h => h, fun _ h => h, fun _ _ h => h, fun _ _ _ e _ => e⟩
theorem unbox_rep (s : St0 G W H hp) {d : D} {v : V} (r : RepB G W H d v) : RepU G W H (unbox hp d) v := by
  cases d with
  | lst ds => obtain ⟨a, vs, e, ⟨q, m⟩, r⟩ := r; exact ⟨a, vs, e, q, r⟩
  | dic ds => obtain ⟨a, vs, e, ⟨q, m⟩, r⟩ := r; exact ⟨a, vs, e, q, r⟩
  | dit ds => obtain ⟨a, vs, e, ⟨q, m⟩, r⟩ := r; exact ⟨a, vs, e, q, r⟩
  | non => exact r
  | bl _ => exact r
  | int _ => exact r
  | str _ => exact r
  | tup _ => exact r
  | lam _ => exact r
  | scr _ => exact r
  | ref n =>
    show RepU G W H (match hp[n]? with | some (.box d) => d | _ => .ref n) v
    cases e : hp[n]? with
    | none => exact r
    | some c =>
      cases c with
      | ins _ _ => exact r
      | box d =>
        obtain ⟨a, ev, em⟩ := r
        obtain ⟨a', em', q⟩ := s.cells n _ e
        rw [em] at em'
        cases em'
        cases d with
        | lst ds => obtain ⟨vs, q, r⟩ := q; exact ⟨a, vs, ev, q, r.ext nl_lk⟩
        | dic ds => obtain ⟨vs, q, r⟩ := q; exact ⟨a, vs, ev, q, r.ext nl_lk⟩
        | dit ds => obtain ⟨vs, q, r⟩ := q; exact ⟨a, vs, ev, q, r.ext nl_lk⟩
        | _ => exact q.elim
theorem Reps.length : ∀ {ds : List D} {vs : List V}, Reps G W H ds vs → ds.length = vs.length
  | [], _, h => by cases h; rfl
  | d :: ds, _, ⟨v, r, e, _, t⟩ => by rw [e, List.length_cons, List.length_cons, Reps.length t]
theorem Reps.append : ∀ {ds es : List D} {vs us : List V}, Reps G W H ds vs → Reps G W H es us → Reps G W H (ds ++ es) (vs ++ us)
  | [], _, _, _, h, k => by cases h; exact k
  | d :: ds, _, _, _, ⟨v, r, e, h, t⟩, k => by rw [e]; exact ⟨v, _, rfl, h, Reps.append t k⟩
theorem Reps.get : ∀ {ds : List D} {vs : List V} {i : Nat} {d : D}, Reps G W H ds vs → ds[i]? = some d → ∃ v, vs[i]? = some v ∧ Rep G W H d v
  | [], _, _, _, _, e => by simp at e
  | d :: ds, _, 0, _, ⟨v, r, e, h, t⟩, q => by rw [e]; simp at q; subst q; exact ⟨v, rfl, h⟩
  | d :: ds, _, i + 1, _, ⟨v, r, e, h, t⟩, q => by
    rw [e]
    obtain ⟨u, h1, h2⟩ := Reps.get t (by simpa using q)
    exact ⟨u, by simpa using h1, h2⟩
theorem Reps.drop : ∀ {ds : List D} {vs : List V} (n : Nat), Reps G W H ds vs → Reps G W H (ds.drop n) (vs.drop n)
  | _, _, 0, h => h
  | [], _, n + 1, h => by cases h; exact rfl
  | d :: ds, _, n + 1, ⟨v, r, e, h, t⟩ => by rw [e]; exact Reps.drop n t
theorem Reps.take : ∀ {ds : List D} {vs : List V} (n : Nat), Reps G W H ds vs → Reps G W H (ds.take n) (vs.take n)
  | _, _, 0, h => rfl
  | [], _, n + 1, h => by cases h; exact rfl
  | d :: ds, _, n + 1, ⟨v, r, e, h, t⟩ => by rw [e]; exact ⟨v, _, rfl, h, Reps.take n t⟩
theorem Reps.set : ∀ {ds : List D} {vs : List V} {d : D} {v : V} (n : Nat), Rep G W H d v → Reps G W H ds vs → Reps G W H (ds.set n d) (vs.set n v)
  | [], _, _, _, _, _, h => by cases h; exact rfl
  | d :: ds, _, _, _, 0, k, ⟨v, r, e, h, t⟩ => by rw [e]; exact ⟨_, _, rfl, k, t⟩
  | d :: ds, _, _, _, n + 1, k, ⟨v, r, e, h, t⟩ => by rw [e]; exact ⟨v, _, rfl, h, Reps.set n k t⟩
theorem Reps.reverse : ∀ {ds : List D} {vs : List V}, Reps G W H ds vs → Reps G W H ds.reverse vs.reverse
  | [], _, h => by cases h; exact rfl
  | d :: ds, _, ⟨v, r, e, h, t⟩ => by rw [e, List.reverse_cons, List.reverse_cons]; exact Reps.append (Reps.reverse t) ⟨v, [], rfl, h, rfl⟩
theorem Reps.rep {ds : List D} {vs : List V} (h : Reps G W H ds vs) : ∀ k : Nat, Reps G W H (List.replicate k ds).flatten (List.replicate k vs).flatten
  | 0 => rfl
  | k + 1 => by rw [List.replicate_succ, List.replicate_succ, List.flatten_cons, List.flatten_cons]; exact h.append (Reps.rep h k)
theorem TupAt.sq {a : Addr} {vs : List V} (h : TupAt G W H a vs) : SqT G.K H a vs := by
  rcases h with ⟨_, h⟩ | h
  · exact .inl h
  · exact .inr h

/-- a new thing that stays as it is: Q for every place -/
theorem Fin.mk {p : Addr} {o : HO} {d : D} {Q : VK} (s : St0 F.G W H hp) (hp0 : H p = none) (h : Fin F wx σ (Rep F.G) W H Q (.ok d hp)) (r : Rep F.G (W.fzA p) (upd H p o) d (.ref p)) (no : noTbl o := by intro ps z; cases z) : Q (.ref p) (upd H p o) :=
  h _ _ _ (ext_fz s hp0) (st_fz s hp0 no) r
theorem Fin.mkTup {p : Addr} {ds : List D} {vs : List V} {Q : VK} (s : St0 F.G W H hp) (hp0 : H p = none) (r : Reps F.G W H ds vs) (h : Fin F wx σ (Rep F.G) W H Q (.ok (.tup ds) hp)) : Q (.ref p) (upd H p (.tup vs)) :=
  Fin.mk s hp0 h ⟨p, vs, rfl, fz_tup, r.ext (ext_fz s hp0).toLk⟩
theorem Fin.mkLst {p : Addr} {ds : List D} {vs : List V} {Q : VK} (s : St0 F.G W H hp) (hp0 : H p = none) (r : Reps F.G W H ds vs) (h : Fin F wx σ (Rep F.G) W H Q (.ok (.lst ds) hp)) : Q (.ref p) (upd H p (.lst vs)) :=
  Fin.mk s hp0 h ⟨p, vs, rfl, fz_lst, r.ext (ext_fz s hp0).toLk⟩

/-! ### + -/
def opAdd (x y : D) (h : Hc) : R D := match unbox h x, unbox h y with
  | .int i, .int j => .ok (.int (i + j)) h
  | .str a, .str b => if a.length + b.length ≤ 16777216 then .ok (.str (a ++ b)) h else .bad
  | .tup a, .tup b => if a.length + b.length ≤ 16777216 then .ok (.tup (a ++ b)) h else .bad
  | .lst a, .lst b => if a.length + b.length ≤ 16777216 then .ok (.lst (a ++ b)) h else .bad
  | .int i, .bl k => .ok (.int (i + if k then 1 else 0)) h
  | _, _ => .bad
def rAll (K : PySem.W.Frag) : R2 := fun x y H Q => (rI0 (fun i j => .int (i + j)) x y H Q) ∨ (∃ i j, x = .str i ∧ y = .str j ∧ i.length + j.length ≤ sizeLine ∧ Q (.str (i ++ j)) H) ∨ rCatA K x y H Q ∨ rCat x y H Q ∨ (∃ i k, x = .int i ∧ y = .bl k ∧ Q (.int (i + b2i k)) H)
theorem op_addAll : OpR X (binaryOp .Add) (rAll X.K) := op_add.or (op_add_str.or (op_catA.or (op_cat.or op_add_ib)))
theorem okS_app {a b : List Nat} (h : okS a) (k : okS b) : okS (a ++ b) := by unfold okS; rw [List.all_append, h, k]; rfl
theorem str_app (a b : List Nat) : (⟨a.toArray⟩ : Str) ++ ⟨b.toArray⟩ = ⟨(a ++ b).toArray⟩ := SX.S_cat a b
theorem str_len (a : List Nat) : Str.length ⟨a.toArray⟩ = a.length := SX.S_len a
theorem s_add (hK : F.G.K = X.K) : OpS F (RepB F.G) (RepB F.G) opAdd (rAll X.K) := by
  intro wx σ W H hp x y v u Q s rx ry h
  have ux := unbox_rep s rx
  have uy := unbox_rep s ry
  unfold opAdd at h
  split at h
  · rename_i i j e1 e2
    rw [e1] at ux; rw [e2] at uy
    cases ux; cases uy
    exact .inl ⟨i, j, rfl, rfl, Fin.here h s rfl⟩
  · rename_i a b e1 e2
    rw [e1] at ux; rw [e2] at uy
    obtain ⟨rfl, o1⟩ := ux
    obtain ⟨rfl, o2⟩ := uy
    split at h
    · rename_i hl
      refine .inr (.inl ⟨_, _, rfl, rfl, ?_, ?_⟩)
      · rw [str_len, str_len]; exact lim_ok hl
      · rw [str_app]; exact Fin.here h s ⟨rfl, okS_app o1 o2⟩
    · exact h.elim
  · rename_i a b e1 e2
    rw [e1] at ux; rw [e2] at uy
    obtain ⟨p, vs, ep, tp, rp⟩ := ux
    obtain ⟨q, us, eq, tq, rq⟩ := uy
    split at h
    · rename_i hl
      refine .inr (.inr (.inl ⟨p, q, vs, us, ep, eq, hK ▸ tp.sq, hK ▸ tq.sq, ?_, fun z => ?_, fun z1 z2 => ?_, fun _ _ p' hp' => ?_⟩))
      · rw [← rp.length, ← rq.length]; exact lim_ok hl
      · subst z
        have e : a = [] := List.eq_nil_of_length_eq_zero (by rw [rp.length]; rfl)
        subst e
        exact Fin.here h s ⟨q, us, rfl, tq, rq⟩
      · subst z2
        have e : b = [] := List.eq_nil_of_length_eq_zero (by rw [rq.length]; rfl)
        subst e
        rw [List.append_nil] at h
        exact Fin.here h s ⟨p, vs, rfl, tp, rp⟩
      · exact Fin.mkTup s hp' (rp.append rq) h
    · exact h.elim
  · rename_i a b e1 e2
    rw [e1] at ux; rw [e2] at uy
    obtain ⟨p, vs, ep, tp, rp⟩ := ux
    obtain ⟨q, us, eq, tq, rq⟩ := uy
    split at h
    · rename_i hl
      refine .inr (.inr (.inr (.inl ⟨p, q, vs, us, ep, eq, tp, tq, ?_, fun p' hp' => ?_⟩)))
      · rw [← rp.length, ← rq.length]; exact lim_ok hl
      · exact Fin.mkLst s hp' (rp.append rq) h
    · exact h.elim
  · rename_i i k e1 e2
    rw [e1] at ux; rw [e2] at uy
    cases ux; cases uy
    refine .inr (.inr (.inr (.inr ⟨i, k, rfl, rfl, ?_⟩)))
    have e : b2i k = if k then 1 else 0 := by cases k <;> rfl
    rw [e]
    exact Fin.here h s rfl
  · exact h.elim
/-! ### -, //, %, **, * -/
def opSub (x y : D) (h : Hc) : R D := match x, y with
  | .int i, .int j => .ok (.int (i - j)) h
  | _, _ => .bad
theorem s_sub : OpS F (RepB F.G) (RepB F.G) opSub (rI0 fun i j => .int (i - j)) := by
  intro wx σ W H hp x y v u Q s rx ry h
  unfold opSub at h
  split at h
  · cases rx; cases ry
    exact ⟨_, _, rfl, rfl, Fin.here h s rfl⟩
  · exact h.elim
def opDiv (x y : D) (h : Hc) : R D := match x, y with
  | .int i, .int j => if j ≠ 0 ∧ j.natAbs < 1073741824 then .ok (.int (i.fdiv j)) h else .bad
  | _, _ => .bad
theorem s_div : OpS F (RepB F.G) (RepB F.G) opDiv (rI CDivN fun i j => .int (i.fdiv j)) := by
  intro wx σ W H hp x y v u Q s rx ry h
  unfold opDiv at h
  split at h
  · cases rx; cases ry
    split at h
    · rename_i hc
      exact ⟨_, _, rfl, rfl, hc, Fin.here h s rfl⟩
    · exact h.elim
  · exact h.elim
def opMod (x y : D) (h : Hc) : R D := match x, y with
  | .int i, .int j => if j ≠ 0 then .ok (.int (i.fmod j)) h else .bad
  | _, _ => .bad
theorem s_mod : OpS F (RepB F.G) (RepB F.G) opMod (rI (fun _ j => j ≠ 0) fun i j => .int (i.fmod j)) := by
  intro wx σ W H hp x y v u Q s rx ry h
  unfold opMod at h
  split at h
  · cases rx; cases ry
    split at h
    · rename_i hc
      exact ⟨_, _, rfl, rfl, hc, Fin.here h s rfl⟩
    · exact h.elim
  · exact h.elim
def opPow (x y : D) (h : Hc) : R D := match x, y with
  | .int i, .int j => if 0 ≤ j ∧ j ≤ 1000000 ∧ i.natAbs < 2 ^ 64 then .ok (.int (i ^ j.toNat)) h else .bad
  | _, _ => .bad
theorem s_pow : OpS F (RepB F.G) (RepB F.G) opPow (rI CPow fun i j => .int (i ^ j.toNat)) := by
  intro wx σ W H hp x y v u Q s rx ry h
  unfold opPow at h
  split at h
  · cases rx; cases ry
    split at h
    · rename_i hc
      exact ⟨_, _, rfl, rfl, hc, Fin.here h s rfl⟩
    · exact h.elim
  · exact h.elim
/-- n times a text -/
def repL {α : Type} (s : List α) (n : Int) : List α := (List.replicate n.toNat s).flatten
theorem okS_rep {a : List Nat} (h : okS a) : ∀ n : Nat, okS (List.replicate n a).flatten
  | 0 => rfl
  | n + 1 => by rw [List.replicate_succ, List.flatten_cons]; exact okS_app h (okS_rep h n)
theorem mul_list (a : List Nat) (n : Int) : Txt.mul ⟨a.toArray⟩ n = ⟨(repL a n).toArray⟩ := by
  unfold Txt.mul repL
  by_cases h1 : n < 1
  · rw [if_pos h1]
    have e : n.toNat = 0 := by omega
    rw [e]; rfl
  · rw [if_neg h1]
    split
    · rename_i hc
      rw [Bool.or_eq_true, beq_iff_eq, beq_iff_eq] at hc
      rcases hc with h | h
      · subst h
        show _ = (⟨((List.replicate 1 a).flatten).toArray⟩ : Str)
        simp
      · have e : a = [] := List.eq_nil_of_length_eq_zero (by rw [← h]; simp [Str.length])
        subst e
        have e2 : ∀ k : Nat, (List.replicate k ([] : List Nat)).flatten = [] := fun k => by simp
        rw [e2]
    · have e := L2.foldl_rep
      have q : ∀ (k : Nat) (acc : List Nat), (List.replicate k a.toArray).foldl (· ++ ·) acc.toArray = (acc ++ (List.replicate k a).flatten).toArray := by
        intro k
        induction k with
        | zero => intro acc; simp
        | succ k ih =>
          intro acc
          rw [List.replicate_succ, List.foldl_cons]
          have e3 : acc.toArray ++ a.toArray = (acc ++ a).toArray := by simp
          rw [e3, ih, List.replicate_succ, List.flatten_cons, List.append_assoc]
      have z := q n.toNat []
      rw [List.nil_append] at z
      exact congrArg Str.mk z
theorem op_mulS : OpR X (binaryOp .Mult) (fun x y H Q => ∃ (a : List Nat) (n : Int), x = .str ⟨a.toArray⟩ ∧ y = .int n ∧ (-1048576 ≤ n ∧ n ≤ 16777216 ∧ a.length * n.toNat ≤ 16777216) ∧ Q (.str ⟨(repL a n).toArray⟩) H) := by
  intro pins s σ H x y v u Q I rx ry h
  obtain ⟨a, n, rfl, rfl, ⟨h0, h1, h2⟩, q⟩ := h
  obtain ⟨t, rfl⟩ := rx
  obtain ⟨t', rfl⟩ := ry
  refine SB.mul (mulOk_of a.length n.toNat (Nat.le_of_eq (str_len a)) (by omega) (by omega) (by omega) h2) fun t2 k => ?_
  rw [mul_list]
  exact ⟨.str _, H, I.tok _, ⟨_, rfl⟩, q⟩
def opMul (x y : D) (h : Hc) : R D := match unbox h x, unbox h y with
  | .int i, .int j => if (-(2 ^ 64) < i ∧ i < 2 ^ 64) ∨ (-(2 ^ 64) < j ∧ j < 2 ^ 64) then .ok (.int (i * j)) h else .bad
  | .str a, .int n => if -1048576 ≤ n ∧ n ≤ 16777216 ∧ a.length * n.toNat ≤ 16777216 then .ok (.str (repL a n)) h else .bad
  | .lst a, .int n => if -1048576 ≤ n ∧ n ≤ 16777216 ∧ a.length * n.toNat ≤ 16777216 then .ok (.lst (repL a n)) h else .bad
  | _, _ => .bad
def rMulAll : R2 := fun x y H Q => (rI CMul (fun i j => .int (i * j)) x y H Q) ∨ (∃ (a : List Nat) (n : Int), x = .str ⟨a.toArray⟩ ∧ y = .int n ∧ (-1048576 ≤ n ∧ n ≤ 16777216 ∧ a.length * n.toNat ≤ 16777216) ∧ Q (.str ⟨(repL a n).toArray⟩) H) ∨ rRep x y H Q
theorem op_mulAll : OpR X (binaryOp .Mult) rMulAll := op_mul.or (op_mulS.or op_rep)
theorem s_mul : OpS F (RepB F.G) (RepB F.G) opMul rMulAll := by
  intro wx σ W H hp x y v u Q s rx ry h
  have ux := unbox_rep s rx
  have uy := unbox_rep s ry
  unfold opMul at h
  split at h
  · rename_i i j e1 e2
    rw [e1] at ux; rw [e2] at uy
    cases ux; cases uy
    split at h
    · rename_i hc
      exact .inl ⟨i, j, rfl, rfl, hc, Fin.here h s rfl⟩
    · exact h.elim
  · rename_i a n e1 e2
    rw [e1] at ux; rw [e2] at uy
    obtain ⟨rfl, o1⟩ := ux
    cases uy
    split at h
    · rename_i hc
      exact .inr (.inl ⟨a, n, rfl, rfl, hc, Fin.here h s ⟨rfl, okS_rep o1 _⟩⟩)
    · exact h.elim
  · rename_i a n e1 e2
    rw [e1] at ux; rw [e2] at uy
    obtain ⟨p, vs, ep, tp, rp⟩ := ux
    cases uy
    split at h
    · rename_i hc
      refine .inr (.inr ⟨p, n, vs, ep, rfl, tp, by omega, by omega, ?_, fun p' hp' => ?_⟩)
      · rw [← rp.length]; exact lim_ok hc.2.2
      · exact Fin.mkLst s hp' (rp.rep _) h
    · exact h.elim
  · exact h.elim
def eNeg (a : EM) : EM := fun ρ h => (a ρ h).bind fun x h1 => match x with
  | .int i => .ok (.int (-i)) h1
  | _ => .bad
theorem e_neg {a : Expr} {ea : EM} {pos : Pos} (ha : PE X a (TrE F wx ea)) : PE X (.UnaryOp .USub a pos) (TrE F wx (eNeg ea)) :=
  PE.imp (pe_un un_neg ha) fun σ H Q ⟨W, ρ, hp, g, h⟩ => ⟨W, ρ, hp, g, Fin.bind h fun d hp' W' v H' x s r q => by
    split at q
    · cases r
      exact ⟨_, rfl, Fin.here q s rfl⟩
    · exact q.elim⟩
end
end Z

/-! Z5: comparisons, tests -/
namespace Z
open PySem PySem.Spec PyProof.Rows L2

/-! ### data that == compares -/
mutual
def D.eqv : D → D → Bool
  | .non, .non => true
  | .bl a, .bl b => a == b
  | .bl a, .int j => decide ((if a then 1 else 0) = j)
  | .int i, .bl b => decide (i = if b then 1 else 0)
  | .int i, .int j => decide (i = j)
  | .str a, .str b => decide (a = b)
  | .tup a, .tup b => eqvs a b
  | .lst a, .lst b => eqvs a b
  | _, _ => false
def eqvs : List D → List D → Bool
  | [], [] => true
  | x :: xs, y :: ys => x.eqv y && eqvs xs ys
  | _, _ => false
end
/-! plain data, n deep at most -/
mutual
def pl (n : Nat) : D → Bool
  | .non | .bl _ | .int _ | .str _ => true
  | .tup xs => match n with
    | 0 => false
    | m + 1 => pls m xs
  | .lst xs => match n with
    | 0 => false
    | m + 1 => pls m xs
  | _ => false
def pls (n : Nat) : List D → Bool
  | [] => true
  | x :: xs => pl n x && pls n xs
end
mutual
def toP : D → PyData
  | .non => .none
  | .bl b => .bool b
  | .int i => .int i
  | .str s => .str ⟨s.toArray⟩
  | .tup xs => .tuple (toPs xs)
  | .lst xs => .list (toPs xs)
  | _ => .none
def toPs : List D → List PyData
  | [] => []
  | x :: xs => toP x :: toPs xs
end
section
variable {F : Fr} {X : Cx} {wx : WX} {σ : L2.St} {G : Gl} {W W' : Wd} {H H' : Hp} {hp : Hc}
theorem sbeq (a b : List Nat) : ((⟨a.toArray⟩ : Str) == ⟨b.toArray⟩) = decide (a = b) := SX.S_beq_eq
mutual
theorem eqv_toP : ∀ (n m : Nat) (x y : D), pl n x = true → pl m y = true → PyData.eqv (toP x) (toP y) = x.eqv y
  | n, m, .non, y, h, k => by cases y <;> first | rfl | (simp [pl] at k)
  | n, m, .bl a, y, h, k => by
    cases y <;> first | rfl | (simp [pl] at k; done) | (simp only [toP, PyData.eqv, D.eqv]; cases a <;> simp <;> rfl)
  | n, m, .int i, y, h, k => by
    cases y <;> first | rfl | (simp [pl] at k; done) | (simp only [toP, PyData.eqv, D.eqv]; rfl)
  | n, m, .str a, y, h, k => by
    cases y <;> first | rfl | (simp [pl] at k; done) | (simp only [toP, PyData.eqv, D.eqv]; exact sbeq _ _)
  | n, m, .tup a, y, h, k => by
    cases y with
    | tup b =>
      cases n with
      | zero => simp [pl] at h
      | succ n =>
        cases m with
        | zero => simp [pl] at k
        | succ m =>
          simp only [toP, PyData.eqv, D.eqv]
          exact eqvs_toP n m a b (by simpa [pl] using h) (by simpa [pl] using k)
    | _ => first | rfl | (simp [pl] at k; done)
  | n, m, .lst a, y, h, k => by
    cases y with
    | lst b =>
      cases n with
      | zero => simp [pl] at h
      | succ n =>
        cases m with
        | zero => simp [pl] at k
        | succ m =>
          simp only [toP, PyData.eqv, D.eqv]
          exact eqvs_toP n m a b (by simpa [pl] using h) (by simpa [pl] using k)
    | _ => first | rfl | (simp [pl] at k; done)
  | n, m, .dic a, y, h, k => by simp [pl] at h
  | n, m, .dit a, y, h, k => by simp [pl] at h
  | n, m, .ref a, y, h, k => by simp [pl] at h
  | n, m, .lam a, y, h, k => by simp [pl] at h
  | n, m, .scr a, y, h, k => by simp [pl] at h
theorem eqvs_toP : ∀ (n m : Nat) (x y : List D), pls n x = true → pls m y = true → PyData.eqvAll (toPs x) (toPs y) = eqvs x y
  | n, m, [], [], h, k => rfl
  | n, m, [], _ :: _, h, k => rfl
  | n, m, _ :: _, [], h, k => rfl
  | n, m, x :: xs, y :: ys, h, k => by
    simp only [pls, Bool.and_eq_true] at h k
    simp only [toPs, PyData.eqvAll, eqvs]
    rw [eqv_toP n m x y h.1 k.1, eqvs_toP n m xs ys h.2 k.2]
end
theorem strOk_of {s : List Nat} (h : okS s) : PyData.strOk ⟨s.toArray⟩ = true := by
  unfold PyData.strOk
  unfold okS at h
  rw [List.all_toArray]
  exact h
/-! data of a state -/
mutual
theorem dp_of : ∀ (n : Nat) (d : D) (v : V), pl n d = true → RepU G W H d v → Dp G.K H v (toP d) ∧ (toP d).canLay0 = true ∧ (toP d).depth ≤ n
  | n, .non, v, h, r => by cases r; exact ⟨.non, rfl, Nat.zero_le _⟩
  | n, .bl b, v, h, r => by cases r; exact ⟨.bl b, rfl, Nat.zero_le _⟩
  | n, .int b, v, h, r => by cases r; exact ⟨.int b, rfl, Nat.zero_le _⟩
  | n, .str b, v, h, r => by
    obtain ⟨rfl, o⟩ := r
    exact ⟨.str _, by simpa [toP, PyData.canLay0] using strOk_of o, Nat.zero_le _⟩
  | 0, .tup b, v, h, r => by simp [pl] at h
  | n + 1, .tup b, v, h, r => by
    obtain ⟨a, vs, rfl, t, q⟩ := r
    obtain ⟨h1, h2, h3⟩ := dps_of n b vs (by simpa [pl] using h) q
    exact ⟨.tup t.sq h1, by simpa [toP, PyData.canLay0] using h2, by simp only [toP, PyData.depth]; omega⟩
  | 0, .lst b, v, h, r => by simp [pl] at h
  | n + 1, .lst b, v, h, r => by
    obtain ⟨a, vs, rfl, t, q⟩ := r
    obtain ⟨h1, h2, h3⟩ := dps_of n b vs (by simpa [pl] using h) q
    exact ⟨.lst (SqL.of t) h1, by simpa [toP, PyData.canLay0] using h2, by simp only [toP, PyData.depth]; omega⟩
  | n, .dic a, v, h, r => by simp [pl] at h
  | n, .dit a, v, h, r => by simp [pl] at h
  | n, .ref a, v, h, r => by simp [pl] at h
  | n, .lam a, v, h, r => by simp [pl] at h
  | n, .scr a, v, h, r => by simp [pl] at h
theorem dps_of : ∀ (n : Nat) (ds : List D) (vs : List V), pls n ds = true → Reps G W H ds vs → DpAll G.K H vs (toPs ds) ∧ PyData.canLayAll0 (toPs ds) = true ∧ PyData.depthAll (toPs ds) ≤ n
  | n, [], vs, h, r => by cases r; exact ⟨.nil, rfl, Nat.zero_le _⟩
  | n, d :: ds, _, h, ⟨v, r, rfl, q, t⟩ => by
    simp only [pls, Bool.and_eq_true] at h
    have qU : RepU G W H d v := by
      cases d with
      | lst ds => obtain ⟨a, vs, e, z, r⟩ := q; exact ⟨a, vs, e, z.2, r⟩
      | dic ds => obtain ⟨a, vs, e, z, r⟩ := q; exact ⟨a, vs, e, z.2, r⟩
      | dit ds => obtain ⟨a, vs, e, z, r⟩ := q; exact ⟨a, vs, e, z.2, r⟩
      | _ => exact q
    obtain ⟨h1, h2, h3⟩ := dp_of n d v h.1 qU
    obtain ⟨k1, k2, k3⟩ := dps_of n ds r h.2 t
    exact ⟨.cons h1 k1, by simp only [toPs, PyData.canLayAll0, h2, k2, Bool.and_self], by simp only [toPs, PyData.depthAll]; omega⟩
end
/-! ### ==, != -/
def opEq (x y : D) (h : Hc) : R D := if pl 12 (unbox h x) && pl 12 (unbox h y) then .ok (.bl ((unbox h x).eqv (unbox h y))) h else .bad
def opNe (x y : D) (h : Hc) : R D := if pl 12 (unbox h x) && pl 12 (unbox h y) then .ok (.bl (!(unbox h x).eqv (unbox h y))) h else .bad
theorem shaped_of {d : PyData} (h : d.canLay0 = true) (k : d.depth ≤ 12) : SeqAt.shaped d = true := by
  unfold SeqAt.shaped
  rw [h, decide_eq_true (by omega : d.depth ≤ 64)]
  rfl
theorem s_eq (hK : F.G.K = X.K) : OpS F (RepB F.G) (RepB F.G) opEq (rEqD X.K) := by
  intro wx σ W H hp x y v u Q s rx ry h
  unfold opEq at h
  split at h
  · rename_i hc
    simp only [Bool.and_eq_true] at hc
    obtain ⟨a1, a2, a3⟩ := dp_of 12 _ v hc.1 (unbox_rep s rx)
    obtain ⟨b1, b2, b3⟩ := dp_of 12 _ u hc.2 (unbox_rep s ry)
    refine ⟨_, _, hK ▸ a1, hK ▸ b1, shaped_of a2 a3, shaped_of b2 b3, ?_⟩
    rw [eqv_toP 12 12 _ _ hc.1 hc.2]
    exact Fin.here h s rfl
  · exact h.elim
theorem s_ne (hK : F.G.K = X.K) : OpS F (RepB F.G) (RepB F.G) opNe (rNeD X.K) := by
  intro wx σ W H hp x y v u Q s rx ry h
  unfold opNe at h
  split at h
  · rename_i hc
    simp only [Bool.and_eq_true] at hc
    obtain ⟨a1, a2, a3⟩ := dp_of 12 _ v hc.1 (unbox_rep s rx)
    obtain ⟨b1, b2, b3⟩ := dp_of 12 _ u hc.2 (unbox_rep s ry)
    refine ⟨_, _, hK ▸ a1, hK ▸ b1, shaped_of a2 a3, shaped_of b2 b3, ?_⟩
    rw [eqv_toP 12 12 _ _ hc.1 hc.2]
    exact Fin.here h s rfl
  · exact h.elim
/-! ### <, <=, >, >= -/
def opCmp (p : Int → Int → Bool) (q : List Nat → List Nat → Bool) (x y : D) (h : Hc) : R D := match x, y with
  | .int i, .int j => .ok (.bl (p i j)) h
  | .str a, .str b => .ok (.bl (q a b)) h
  | _, _ => .bad
abbrev opLt := opCmp (fun i j => decide (i < j)) (fun a b => decide (a < b))
abbrev opLe := opCmp (fun i j => decide (i ≤ j)) (fun a b => !decide (b < a))
abbrev opGt := opCmp (fun i j => decide (j < i)) (fun a b => decide (b < a))
abbrev opGe := opCmp (fun i j => decide (j ≤ i)) (fun a b => !decide (a < b))
def rCmp (p : Int → Int → Bool) (q : List Nat → List Nat → Bool) : R2 := fun x y H Q => (rI0 (fun i j => .bl (p i j)) x y H Q) ∨ ∃ i j : Str, x = .str i ∧ y = .str j ∧ Q (.bl (q i.cps.toList j.cps.toList)) H
theorem s_cmp (p : Int → Int → Bool) (q : List Nat → List Nat → Bool) : OpS F (RepB F.G) (RepB F.G) (opCmp p q) (rCmp p q) := by
  intro wx σ W H hp x y v u Q s rx ry h
  unfold opCmp at h
  split at h
  · cases rx; cases ry
    exact .inl ⟨_, _, rfl, rfl, Fin.here h s rfl⟩
  · obtain ⟨rfl, _⟩ := rx
    obtain ⟨rfl, _⟩ := ry
    exact .inr ⟨_, _, rfl, rfl, Fin.here h s rfl⟩
  · exact h.elim
theorem o_lt : OpR X (compareOp .Lt) (rCmp (fun i j => decide (i < j)) (fun a b => decide (a < b))) := op_lt.or op_lt_str
theorem o_le : OpR X (compareOp .LtE) (rCmp (fun i j => decide (i ≤ j)) (fun a b => !decide (b < a))) := op_le.or op_le_str
theorem o_gt : OpR X (compareOp .Gt) (rCmp (fun i j => decide (j < i)) (fun a b => decide (b < a))) := op_gt.or op_gt_str
theorem o_ge : OpR X (compareOp .GtE) (rCmp (fun i j => decide (j ≤ i)) (fun a b => !decide (a < b))) := op_ge.or op_ge_str
/-! ### is None -/
def eIsN (neg : Bool) (a : EM) : EM := fun ρ h => (a ρ h).bind fun x h1 => match x with
  | .non => .ok (.bl (!neg)) h1
  | _ => .ok (.bl neg) h1
theorem rep_non {d : D} {v : V} (r : Rep G W H d v) : decide (v = V.non) = (match d with | .non => true | _ => false) := by
  cases d with
  | non => cases r; rfl
  | bl _ => cases r; rfl
  | int _ => cases r; rfl
  | str _ => obtain ⟨rfl, _⟩ := r; rfl
  | tup _ => obtain ⟨a, vs, rfl, _⟩ := r; rfl
  | lst _ => obtain ⟨a, vs, rfl, _⟩ := r; rfl
  | dic _ => obtain ⟨a, vs, rfl, _⟩ := r; rfl
  | dit _ => obtain ⟨a, vs, rfl, _⟩ := r; rfl
  | ref _ => obtain ⟨a, rfl, _⟩ := r; rfl
  | lam _ => obtain ⟨a, rfl, _⟩ := r; rfl
  | scr _ => obtain ⟨a, vs, rfl, _⟩ := r; rfl
theorem e_isN {a : Expr} {ea : EM} {j : Nat} {p2 pos : Pos} (ha : PE X a (TrE F wx ea)) : PE X (.Compare a [.Is] [.Constant .none j p2] pos) (TrE F wx (eIsN false ea)) :=
  PE.imp (pe_cmp (pc_isN ha) rfl) fun σ H Q ⟨W, ρ, hp, g, h⟩ => ⟨W, ρ, hp, g, Fin.bind h fun d hp' W' v H' x s r q => by
    rw [rep_non r]
    cases d <;> exact Fin.here q s rfl⟩
theorem e_notN {a : Expr} {ea : EM} {j : Nat} {p2 pos : Pos} (ha : PE X a (TrE F wx ea)) : PE X (.Compare a [.IsNot] [.Constant .none j p2] pos) (TrE F wx (eIsN true ea)) :=
  PE.imp (pe_cmp (pc_notN ha) rfl) fun σ H Q ⟨W, ρ, hp, g, h⟩ => ⟨W, ρ, hp, g, Fin.bind h fun d hp' W' v H' x s r q => by
    rw [rep_non r]
    cases d <;> exact Fin.here q s rfl⟩
/-! ### tests -/
def tB1 (a : EM) : TM := fun ρ h => (a ρ h).bind fun x h1 => match x with
  | .bl b => .ok b h1
  | _ => .bad
theorem t_cmp {op : D → D → Hc → R D} {o : CmpOp} {r : R2} {a b : Expr} {ea eb : EM} {pos : Pos} (ho : OpR X (compareOp o) r) (hs : OpS F (RepB F.G) (RepB F.G) op r) (ha : PE X a (TrB F wx ea)) (hb : PE X b (TrB F wx eb)) (hm : behindInMarks o b = false := by first | exact nomark _ | rfl) :
    PT X (.Compare a [o] [b] pos) (TrT F wx (tB1 (eBin op ea eb))) :=
  PT.imp (pt_cmpR ho ha hb hm) fun σ H Q ⟨W, ρ, hp, g, h⟩ => ⟨W, ρ, hp, g, bin_imp mono_repB hs g (Fin.bind h fun d hp' W' v H' x s r q => by
    split at q
    · cases r
      exact ⟨_, rfl, Fin.here q s rfl⟩
    · exact q.elim)⟩
/-- an expression whose value is a truth value -/
theorem t_val {e : Expr} {em : EM} (h : PE X e (TrE F wx em)) (he : ∀ whole, isTrue e X.env whole = (do let v ← whole; standAt e.pos; holding [v] (truthy v)) := by intro _; rfl) : PT X e (TrT F wx (tB1 em)) :=
  PT.imp (pt_val h he) fun σ H Q ⟨W, ρ, hp, g, h⟩ => ⟨W, ρ, hp, g, Fin.bind h fun d hp' W' v H' x s r q => by
    split at q
    · cases r
      exact ⟨_, rfl, Fin.here q s rfl⟩
    · exact q.elim⟩
def tNotM (a : TM) : TM := fun ρ h => (a ρ h).bind fun b h1 => .ok (!b) h1
theorem t_not {a : Expr} {ta : TM} {pos : Pos} (ha : PT X a (TrT F wx ta)) : PT X (.UnaryOp .Not a pos) (TrT F wx (tNotM ta)) :=
  PT.imp (pt_not ha) fun σ H Q ⟨W, ρ, hp, g, h⟩ => ⟨W, ρ, hp, g, Fin.bind h fun b hp' W' c H' x s r q => by
    cases r
    exact Fin.here q s rfl⟩
def tAndM (a b : TM) : TM := fun ρ h => (a ρ h).bind fun x h1 => if x = true then b ρ h1 else .ok false h1
def tOrM (a b : TM) : TM := fun ρ h => (a ρ h).bind fun x h1 => if x = true then .ok true h1 else b ρ h1
theorem PW.imp {X : Cx} {e : Expr} {t t' : TT} (h : PW X e t) (k : ∀ σ H Q, t' σ H Q → t σ H Q) : PW X e t' := ⟨fun wh p s σ H Q I q => h.run wh p s σ H Q I (k σ H Q q)⟩
theorem w_and {a b : Expr} {rest : List Expr} {ta tb : TM} {pos : Pos} (ha : PT X a (TrT F wx ta)) (hb : PW X (.BoolOp .And (b :: rest) pos) (TrT F wx tb)) : PW X (.BoolOp .And (a :: b :: rest) pos) (TrT F wx (tAndM ta tb)) :=
  PW.imp (pw_and ha hb) fun σ H Q ⟨W, ρ, hp, g, h⟩ => ⟨W, ρ, hp, g, Fin.bind h fun x hp' W' c H' e s r q => by
    cases r
    cases x with
    | true => rw [if_pos rfl] at q ⊢; exact ⟨W', ρ, hp', g.ext e s, q⟩
    | false => rw [if_neg Bool.false_ne_true] at q ⊢; exact Fin.here q s rfl⟩
theorem w_or {a b : Expr} {rest : List Expr} {ta tb : TM} {pos : Pos} (ha : PT X a (TrT F wx ta)) (hb : PW X (.BoolOp .Or (b :: rest) pos) (TrT F wx tb)) : PW X (.BoolOp .Or (a :: b :: rest) pos) (TrT F wx (tOrM ta tb)) :=
  PW.imp (pw_or ha hb) fun σ H Q ⟨W, ρ, hp, g, h⟩ => ⟨W, ρ, hp, g, Fin.bind h fun x hp' W' c H' e s r q => by
    cases r
    cases x with
    | true => rw [if_pos rfl] at q ⊢; exact Fin.here q s rfl
    | false => rw [if_neg Bool.false_ne_true] at q ⊢; exact ⟨W', ρ, hp', g.ext e s, q⟩⟩
/-! ### and, or, not, if-else as values (truth values) -/
def eAnd (a b : EM) : EM := fun ρ h => (a ρ h).bind fun x h1 => match x with
  | .bl true => b ρ h1
  | .bl false => .ok (.bl false) h1
  | _ => .bad
def eOr (a b : EM) : EM := fun ρ h => (a ρ h).bind fun x h1 => match x with
  | .bl true => .ok (.bl true) h1
  | .bl false => b ρ h1
  | _ => .bad
theorem e_and {a b : Expr} {rest : List Expr} {ea eb : EM} {pos : Pos} (ha : PE X a (TrE F wx ea)) (hb : PE X (.BoolOp .And (b :: rest) pos) (TrE F wx eb)) : PE X (.BoolOp .And (a :: b :: rest) pos) (TrE F wx (eAnd ea eb)) :=
  PE.imp (pe_and ha hb) fun σ H Q ⟨W, ρ, hp, g, h⟩ => ⟨W, ρ, hp, g, Fin.bind h fun x hp' W' c H' e s r q => by
    split at q
    · cases r
      exact ⟨true, rfl, by rw [if_pos rfl]; exact ⟨W', ρ, hp', g.ext e s, q⟩⟩
    · cases r
      exact ⟨false, rfl, by rw [if_neg Bool.false_ne_true]; exact Fin.here q s rfl⟩
    · exact q.elim⟩
theorem e_or {a b : Expr} {rest : List Expr} {ea eb : EM} {pos : Pos} (ha : PE X a (TrE F wx ea)) (hb : PE X (.BoolOp .Or (b :: rest) pos) (TrE F wx eb)) : PE X (.BoolOp .Or (a :: b :: rest) pos) (TrE F wx (eOr ea eb)) :=
  PE.imp (pe_or ha hb) fun σ H Q ⟨W, ρ, hp, g, h⟩ => ⟨W, ρ, hp, g, Fin.bind h fun x hp' W' c H' e s r q => by
    split at q
    · cases r
      exact ⟨true, rfl, by rw [if_pos rfl]; exact Fin.here q s rfl⟩
    · cases r
      exact ⟨false, rfl, by rw [if_neg Bool.false_ne_true]; exact ⟨W', ρ, hp', g.ext e s, q⟩⟩
    · exact q.elim⟩
def eNot (a : EM) : EM := fun ρ h => (a ρ h).bind fun x h1 => match x with
  | .bl b => .ok (.bl (!b)) h1
  | _ => .bad
theorem e_not {a : Expr} {ea : EM} {pos : Pos} (ha : PE X a (TrE F wx ea)) : PE X (.UnaryOp .Not a pos) (TrE F wx (eNot ea)) :=
  PE.imp (pe_not ha) fun σ H Q ⟨W, ρ, hp, g, h⟩ => ⟨W, ρ, hp, g, Fin.bind h fun x hp' W' c H' e s r q => by
    split at q
    · cases r
      exact ⟨_, rfl, Fin.here q s rfl⟩
    · exact q.elim⟩
def eIf (t : TM) (a b : EM) : EM := fun ρ h => (t ρ h).bind fun x h1 => if x = true then a ρ h1 else b ρ h1
theorem e_if {c a b : Expr} {t : TM} {ea eb : EM} {pos : Pos} (hc : PT X c (TrT F wx t)) (ha : PE X a (TrE F wx ea)) (hb : PE X b (TrE F wx eb)) : PE X (.IfExp c a b pos) (TrE F wx (eIf t ea eb)) :=
  PE.imp (pe_ifExp hc ha hb) fun σ H Q ⟨W, ρ, hp, g, h⟩ => ⟨W, ρ, hp, g, Fin.bind h fun x hp' W' c H' e s r q => by
    cases r
    cases x with
    | true => rw [if_pos rfl] at q ⊢; exact ⟨W', ρ, hp', g.ext e s, q⟩
    | false => rw [if_neg Bool.false_ne_true] at q ⊢; exact ⟨W', ρ, hp', g.ext e s, q⟩⟩
/-! ### a < b < c -/
def eChain (o1 o2 : D → D → Hc → R D) (a b c : EM) : EM := fun ρ h => (a ρ h).bind fun x h1 => (b ρ h1).bind fun y h2 => (o1 x y h2).bind fun z h3 => match z with
  | .bl true => (c ρ h3).bind fun w h4 => o2 y w h4
  | .bl false => .ok (.bl false) h3
  | _ => .bad
theorem chain_imp {op1 op2 : D → D → Hc → R D} {r1 r2 : R2} {ea eb ec : EM} (hs1 : OpS F (RepB F.G) (RepB F.G) op1 r1) (hs2 : OpS F (RepB F.G) (RepB F.G) op2 r2) {H : Hp} {Q : VK} {W : Wd} {ρ : Rho} {hp : Hc} (g : Gd F W ρ hp σ H)
    (h : Fin F wx σ (Rep F.G) W H Q (eChain op1 op2 ea eb ec ρ hp)) : tChain r1 r2 (TrB F wx ea) (TrB F wx eb) (TrB F wx ec) σ H Q := by
  refine ⟨W, ρ, hp, g, Fin.bind h fun d hp1 W1 v H1 x1 s1 r1' h1 => ⟨W1, ρ, hp1, g.ext x1 s1, Fin.bind h1 fun e hp2 W2 u H2 x2 s2 r2' h2 => ?_⟩⟩
  refine hs1 wx σ W2 H2 hp2 d e v u _ s2 (mono_repB _ _ _ _ _ _ x2 r1') r2' (Fin.bind h2 fun z hp3 W3 zv H3 x3 s3 r3 h3 => ?_)
  split at h3
  · cases r3
    refine ⟨true, rfl, ?_⟩
    rw [if_pos rfl]
    refine ⟨W3, ρ, hp3, ((g.ext x1 s1).ext x2 s2).ext x3 s3, Fin.bind h3 fun w hp4 W4 wv H4 x4 s4 r4 h4 => ?_⟩
    exact hs2 wx σ W4 H4 hp4 e w u wv _ s4 (mono_repB _ _ _ _ _ _ (x3.trans x4) r2') r4 h4
  · cases r3
    refine ⟨false, rfl, ?_⟩
    rw [if_neg Bool.false_ne_true]
    exact Fin.here h3 s3 rfl
  · exact h3.elim
theorem e_chain {op1 op2 : D → D → Hc → R D} {o1 o2 : CmpOp} {r1 r2 : R2} {a b c : Expr} {ea eb ec : EM} {pos : Pos} (ho1 : OpR X (compareOp o1) r1) (ho2 : OpR X (compareOp o2) r2) (hs1 : OpS F (RepB F.G) (RepB F.G) op1 r1) (hs2 : OpS F (RepB F.G) (RepB F.G) op2 r2)
    (ha : PE X a (TrB F wx ea)) (hb : PE X b (TrB F wx eb)) (hc : PE X c (TrB F wx ec)) (hm : lastMarks [o1, o2] [b, c] = false := by with_unfolding_all rfl) : PE X (.Compare a [o1, o2] [b, c] pos) (TrE F wx (eChain op1 op2 ea eb ec)) :=
  PE.imp (pe_chain ho1 ho2 ha hb hc hm) fun σ H Q ⟨W, ρ, hp, g, h⟩ => chain_imp hs1 hs2 g h
theorem t_chain {op1 op2 : D → D → Hc → R D} {o1 o2 : CmpOp} {r1 r2 : R2} {a b c : Expr} {ea eb ec : EM} {pos : Pos} (ho1 : OpR X (compareOp o1) r1) (ho2 : OpR X (compareOp o2) r2) (hs1 : OpS F (RepB F.G) (RepB F.G) op1 r1) (hs2 : OpS F (RepB F.G) (RepB F.G) op2 r2)
    (ha : PE X a (TrB F wx ea)) (hb : PE X b (TrB F wx eb)) (hc : PE X c (TrB F wx ec)) (hm : lastMarks [o1, o2] [b, c] = false := by with_unfolding_all rfl) : PT X (.Compare a [o1, o2] [b, c] pos) (TrT F wx (tB1 (eChain op1 op2 ea eb ec))) :=
  PT.imp (pt_chain ho1 ho2 ha hb hc hm) fun σ H Q ⟨W, ρ, hp, g, h⟩ => chain_imp hs1 hs2 g (Fin.bind h fun d hp' W' v H' x s r q => by
    split at q
    · cases r
      exact ⟨_, rfl, Fin.here q s rfl⟩
    · exact q.elim)
end
end Z

/-! Z6: subscripts, displays, calls of built-ins, texts -/
namespace Z
open PySem PySem.Spec PyProof.Rows L2

/-! data without lambdas -/
mutual
def D.nl : D → Bool
  | .non | .bl _ | .int _ | .str _ | .ref _ => true
  | .tup xs => nls xs
  | .lst xs => nls xs
  | .dic kvs => nlk kvs
  | .dit kvs => nlt kvs
  | _ => false
def nls : List D → Bool
  | [] => true
  | x :: xs => x.nl && nls xs
def nlk : List (K1 × D) → Bool
  | [] => true
  | (_, x) :: xs => x.nl && nlk xs
def nlt : List (List K1 × D) → Bool
  | [] => true
  | (_, x) :: xs => x.nl && nlt xs
end
section
variable {F : Fr} {X : Cx} {wx : WX} {σ : L2.St} {G : Gl} {W W' : Wd} {H H' : Hp} {hp : Hc}
/-! ### arguments -/
def RepsB (G : Gl) (W : Wd) (H : Hp) : List D → List V → Prop
  | [], vs => vs = []
  | d :: ds, vs => ∃ v r, vs = v :: r ∧ RepB G W H d v ∧ RepsB G W H ds r
theorem RepsB.ext (x : Ext W H W' H') : ∀ {ds : List D} {vs : List V}, RepsB G W H ds vs → RepsB G W' H' ds vs
  | [], _, h => h
  | d :: ds, _, ⟨v, r, e, h, t⟩ => ⟨v, r, e, RepB.ext x h, RepsB.ext x t⟩
def TrAB (F : Fr) (wx : WX) (am : AM) : TA := fun σ H Q => ∃ W ρ hp, Gd F W ρ hp σ H ∧ Fin F wx σ (RepsB F.G) W H Q (am ρ hp)
def aNil : AM := fun _ h => .ok [] h
def aCons (a : EM) (r : AM) : AM := fun ρ h => (a ρ h).bind fun x h1 => (r ρ h1).bind fun xs h2 => .ok (x :: xs) h2
theorem a_nil : PA X [] (TrA F wx aNil) := PA.imp pa_nil fun σ H Q ⟨W, ρ, hp, g, h⟩ => Fin.here h g.st rfl
theorem a_cons {e : Expr} {es : List Expr} {em : EM} {am : AM} (ha : PE X e (TrE F wx em)) (hr : PA X es (TrA F wx am)) (hs : starEach (e :: es) X.env = (false, eval e X.env) :: starEach es X.env := by rfl) : PA X (e :: es) (TrA F wx (aCons em am)) :=
  PA.imp (pa_cons ha hr hs) fun σ H Q ⟨W, ρ, hp, g, h⟩ => ⟨W, ρ, hp, g, Fin.bind h fun d hp1 W1 v H1 x1 s1 r1 h1 => ⟨W1, ρ, hp1, g.ext x1 s1, Fin.bind h1 fun ds hp2 W2 vs H2 x2 s2 r2 h2 =>
    Fin.here h2 s2 ⟨v, vs, rfl, r1.ext x2.toLk, r2⟩⟩⟩
theorem ab_nil : PA X [] (TrAB F wx aNil) := PA.imp pa_nil fun σ H Q ⟨W, ρ, hp, g, h⟩ => Fin.here h g.st rfl
theorem ab_cons {e : Expr} {es : List Expr} {em : EM} {am : AM} (ha : PE X e (TrB F wx em)) (hr : PA X es (TrAB F wx am)) (hs : starEach (e :: es) X.env = (false, eval e X.env) :: starEach es X.env := by rfl) : PA X (e :: es) (TrAB F wx (aCons em am)) :=
  PA.imp (pa_cons ha hr hs) fun σ H Q ⟨W, ρ, hp, g, h⟩ => ⟨W, ρ, hp, g, Fin.bind h fun d hp1 W1 v H1 x1 s1 r1 h1 => ⟨W1, ρ, hp1, g.ext x1 s1, Fin.bind h1 fun ds hp2 W2 vs H2 x2 s2 r2 h2 =>
    Fin.here h2 s2 ⟨v, vs, rfl, r1.ext x2, r2⟩⟩⟩
/-! ### a new list or dict that nothing else holds -/
def RepN (G : Gl) (Hs : Hp) (W : Wd) (H : Hp) : D → V → Prop
  | .lst ds, v => ∃ a vs, v = .ref a ∧ H a = some (.lst vs) ∧ Reps G W H ds vs ∧ Hs a = none ∧ ¬ W.fz a ∧ ∀ n, W.m n ≠ some a
  | .dic ds, v => ∃ a vs, v = .ref a ∧ H a = some (.dK vs) ∧ RepK G W H ds vs ∧ Hs a = none ∧ ¬ W.fz a ∧ ∀ n, W.m n ≠ some a
  | .dit ds, v => ∃ a vs, v = .ref a ∧ H a = some (.dT vs) ∧ RepT G W H ds vs ∧ Hs a = none ∧ ¬ W.fz a ∧ ∀ n, W.m n ≠ some a
  | _, _ => False
def TrN (F : Fr) (wx : WX) (em : EM) : TE := fun σ H Q => ∃ W ρ hp, Gd F W ρ hp σ H ∧ Fin F wx σ (RepN F.G H) W H Q (em ρ hp)
theorem st_freeze {p : Addr} (s : St0 G W H hp) (e : H p ≠ none) (hm : ∀ n, W.m n ≠ some p) : St0 G (W.fzA p) H hp where
  cells := fun n c h => by
    obtain ⟨a, ha, r⟩ := s.cells n c h
    exact ⟨a, ha, CellRep.ext (W := W.nl) (W' := (W.fzA p).nl) (H' := H) ⟨fun _ _ h => h, fun _ h => Or.inl h, fun _ _ h => h, fun _ _ _ e _ => e⟩ rfl r⟩
  dom := s.dom
  inj := s.inj
  nfz := fun n a h z => z.elim (s.nfz n a h) fun q => hm n (by rw [← q]; exact h)
  ft := fun a h => h.elim (s.ft a) fun z => by rw [z]; exact e
  tl := s.tl
  tb := s.tb
theorem ext_freeze {p : Addr} {Hs : Hp} (x : Ext W' Hs W H) (e : Hs p = none) : Ext W' Hs (W.fzA p) H :=
  ⟨⟨x.m, fun a h => .inl (x.f a h), x.l, x.fk⟩, x.k, x.t, fun a h => h.elim (x.nf a) fun z => .inr (by rw [z]; exact e), x.nm⟩
theorem lk_freeze {p : Addr} : Lk W H (W.fzA p) H := ⟨fun _ _ h => h, fun _ h => .inl h, fun _ _ h => h, fun _ _ _ e _ => e⟩
theorem Fin.freeze {Hs : Hp} {Q : VK} {r : R D} {W0 : Wd} (h : Fin F wx σ (Rep F.G) W0 Hs Q r) : Fin F wx σ (RepN F.G Hs) W0 Hs Q r := by
  cases r with
  | ok d hp' =>
    intro W' v H' x s rn
    cases d with
    | lst ds =>
      obtain ⟨a, vs, rfl, e, r, n0, nf, nm⟩ := rn
      exact h _ _ _ (ext_freeze x n0) (st_freeze s (by rw [e]; simp) nm) ⟨a, vs, rfl, ⟨.inr rfl, e⟩, r.ext lk_freeze⟩
    | dic ds =>
      obtain ⟨a, vs, rfl, e, r, n0, nf, nm⟩ := rn
      exact h _ _ _ (ext_freeze x n0) (st_freeze s (by rw [e]; simp) nm) ⟨a, vs, rfl, ⟨.inr rfl, e⟩, r.ext lk_freeze⟩
    | dit ds =>
      obtain ⟨a, vs, rfl, e, r, n0, nf, nm⟩ := rn
      exact h _ _ _ (ext_freeze x n0) (st_freeze s (by rw [e]; simp) nm) ⟨a, vs, rfl, ⟨.inr rfl, e⟩, r.ext lk_freeze⟩
    | _ => exact rn.elim
  | ex c hp' => exact h
  | bad => exact h
/-- .. as a value that stays -/
theorem n_e {e : Expr} {em : EM} (h : PE X e (TrN F wx em)) : PE X e (TrE F wx em) := PE.imp h fun σ H Q ⟨W, ρ, hp, g, q⟩ => ⟨W, ρ, hp, g, Fin.freeze q⟩
/-- .. in a box -/
def eBox (em : EM) : EM := fun ρ h => (em ρ h).bind fun d h1 => if d.nl then .ok (.ref h1.length) (h1 ++ [.box d]) else .bad
theorem st_mbox {p : Addr} {c : Cell} (s : St0 G W H hp) (e : H p ≠ none) (hm : ∀ n, W.m n ≠ some p) (hf : ¬ W.fz p) (hc : CellRep G (W.box hp.length p).nl H p c) : St0 G (W.box hp.length p) H (hp ++ [c]) where
  cells := fun n c' h => by
    have lk : Lk W.nl H (W.box hp.length p).nl H := ⟨fun n a h => by
      show (if n = hp.length then some p else W.m n) = some a
      rw [if_neg (Nat.ne_of_lt (s.dom n a h))]
      exact h, fun _ h => h, fun _ _ h => h, fun _ _ _ e _ => e⟩
    by_cases hn : n < hp.length
    · rw [List.getElem?_append_left hn] at h
      obtain ⟨a, ha, r⟩ := s.cells n c' h
      exact ⟨a, lk.m n a ha, r.ext lk rfl⟩
    · rw [List.getElem?_append_right (Nat.le_of_not_lt hn)] at h
      have hz : n - hp.length = 0 := by
        have h1 := (List.getElem?_eq_some_iff.mp h).1
        simp at h1
        omega
      rw [hz] at h
      cases h
      have en : n = hp.length := by omega
      subst en
      exact ⟨p, by show (if hp.length = hp.length then some p else W.m hp.length) = some p; rw [if_pos rfl], hc⟩
  dom := fun n a h => by
    have h : (if n = hp.length then some p else W.m n) = some a := h
    rw [List.length_append, List.length_singleton]
    split at h
    · omega
    · have := s.dom n a h
      omega
  inj := fun n k a h1 h2 => by
    have h1 : (if n = hp.length then some p else W.m n) = some a := h1
    have h2 : (if k = hp.length then some p else W.m k) = some a := h2
    split at h1
    · split at h2
      · omega
      · cases h1; exact absurd h2 (hm k)
    · split at h2
      · cases h2; exact absurd h1 (hm n)
      · exact s.inj n k a h1 h2
  nfz := fun n a h => by
    have h : (if n = hp.length then some p else W.m n) = some a := h
    split at h
    · cases h; exact hf
    · exact s.nfz n a h
  ft := s.ft
  tl := s.tl
  tb := s.tb
theorem ext_mbox {p : Addr} {Hs : Hp} {n : Nat} (x : Ext W' Hs W H) (e : Hs p = none) (dom : ∀ k a, W.m k = some a → k < n) : Ext W' Hs (W.box n p) H :=
  ⟨⟨fun k a h => by
    show (if k = n then some p else W.m k) = some a
    rw [if_neg (Nat.ne_of_lt (dom k a (x.m k a h)))]
    exact x.m k a h, x.f, x.l, x.fk⟩, x.k, x.t, x.nf, fun k a h => by
    have h : (if k = n then some p else W.m k) = some a := h
    split at h
    · cases h; exact .inr e
    · exact x.nm k a h⟩
theorem lk_mbox {p : Addr} {n : Nat} (dom : ∀ k a, W.m k = some a → k < n) : Lk W H (W.box n p) H := ⟨fun k a h => by
    show (if k = n then some p else W.m k) = some a
    rw [if_neg (Nat.ne_of_lt (dom k a h))]
    exact h, fun _ h => h, fun _ _ h => h, fun _ _ _ e _ => e⟩
mutual
theorem Rep.nl : ∀ {d : D} {v : V}, d.nl = true → Rep G W H d v → Rep G W.nl H d v
  | .non, _, _, h => h
  | .bl _, _, _, h => h
  | .int _, _, _, h => h
  | .str _, _, _, h => h
  | .ref _, _, _, h => h
  | .tup ds, _, n, ⟨a, vs, e, t, r⟩ => ⟨a, vs, e, t, Reps.nl (by simpa [D.nl] using n) r⟩
  | .lst ds, _, n, ⟨a, vs, e, t, r⟩ => ⟨a, vs, e, t, Reps.nl (by simpa [D.nl] using n) r⟩
  | .dic ds, _, n, ⟨a, vs, e, t, r⟩ => ⟨a, vs, e, t, RepK.nl (by simpa [D.nl] using n) r⟩
  | .dit ds, _, n, ⟨a, vs, e, t, r⟩ => ⟨a, vs, e, t, RepT.nl (by simpa [D.nl] using n) r⟩
  | .lam _, _, n, _ => by simp [D.nl] at n
  | .scr _, _, n, _ => by simp [D.nl] at n
theorem Reps.nl : ∀ {ds : List D} {vs : List V}, nls ds = true → Reps G W H ds vs → Reps G W.nl H ds vs
  | [], _, _, h => h
  | d :: ds, _, n, ⟨v, r, e, h, t⟩ => by
    simp only [nls, Bool.and_eq_true] at n
    exact ⟨v, r, e, Rep.nl n.1 h, Reps.nl n.2 t⟩
theorem RepK.nl : ∀ {ds : List (K1 × D)} {vs : List (Key × V)}, nlk ds = true → RepK G W H ds vs → RepK G W.nl H ds vs
  | [], _, _, h => h
  | (k, d) :: ds, _, n, ⟨v, r, e, h, t⟩ => by
    simp only [nlk, Bool.and_eq_true] at n
    exact ⟨v, r, e, Rep.nl n.1 h, RepK.nl n.2 t⟩
theorem RepT.nl : ∀ {ds : List (List K1 × D)} {vs : List (List Key × V)}, nlt ds = true → RepT G W H ds vs → RepT G W.nl H ds vs
  | [], _, _, h => h
  | (k, d) :: ds, _, n, ⟨v, r, e, h, t⟩ => by
    simp only [nlt, Bool.and_eq_true] at n
    exact ⟨v, r, e, Rep.nl n.1 h, RepT.nl n.2 t⟩
end
theorem Fin.box {Hs : Hp} {Q : VK} {d : D} {hp' : Hc} {W0 : Wd} (h : Fin F wx σ (Rep F.G) W0 Hs Q (if d.nl then .ok (.ref hp'.length) (hp' ++ [.box d]) else .bad)) : Fin F wx σ (RepN F.G Hs) W0 Hs Q (.ok d hp') := by
  split at h
  · rename_i hn
    intro W' v H' x s rn
    have fin : ∀ a, v = .ref a → Hs a = none → H' a ≠ none → ¬ W'.fz a → (∀ n, W'.m n ≠ some a) → CellRep F.G (W'.box hp'.length a).nl H' a (.box d) → Q v H' := fun a ev n0 ne nf nm cr => by
      subst ev
      exact h _ _ H' (ext_mbox x n0 s.dom) (st_mbox s ne nm nf cr) ⟨a, rfl, by show (if hp'.length = hp'.length then some a else W'.m hp'.length) = some a; rw [if_pos rfl]⟩
    cases d with
    | lst ds =>
      obtain ⟨a, vs, ev, e, r, n0, nf, nm⟩ := rn
      exact fin a ev n0 (by rw [e]; simp) nf nm ⟨vs, e, (r.nl (by simpa [D.nl] using hn)).ext (lk_mbox s.dom).nl⟩
    | dic ds =>
      obtain ⟨a, vs, ev, e, r, n0, nf, nm⟩ := rn
      exact fin a ev n0 (by rw [e]; simp) nf nm ⟨vs, e, (r.nl (by simpa [D.nl] using hn)).ext (lk_mbox s.dom).nl⟩
    | dit ds =>
      obtain ⟨a, vs, ev, e, r, n0, nf, nm⟩ := rn
      exact fin a ev n0 (by rw [e]; simp) nf nm ⟨vs, e, (r.nl (by simpa [D.nl] using hn)).ext (lk_mbox s.dom).nl⟩
    | _ => exact rn.elim
  · exact h.elim
theorem n_box {e : Expr} {em : EM} (h : PE X e (TrN F wx em)) : PE X e (TrE F wx (eBox em)) := PE.imp h fun σ H Q ⟨W, ρ, hp, g, q⟩ => ⟨W, ρ, hp, g, by
  unfold eBox at q
  revert q
  cases em ρ hp with
  | ok d hp' => exact fun q => Fin.box q
  | ex c hp' => exact fun q => q
  | bad => exact fun q => q⟩
/-! ### displays -/
def eTup (am : AM) : EM := fun ρ h => (am ρ h).bind fun ds h1 => if ds.length ≤ 16777216 then .ok (.tup ds) h1 else .bad
def eLst (am : AM) : EM := fun ρ h => (am ρ h).bind fun ds h1 => if ds.length ≤ 16777216 then .ok (.lst ds) h1 else .bad
theorem e_tup {es : List Expr} {am : AM} {k : Nat} {pos : Pos} (h : PA X es (TrA F wx am)) : PE X (.Tuple es k pos) (TrE F wx (eTup am)) :=
  PE.imp (pe_tup h) fun σ H Q ⟨W, ρ, hp, g, h⟩ => ⟨W, ρ, hp, g, Fin.bind h fun ds hp1 W1 vs H1 x1 s1 r1 h1 => by
    split at h1
    · rename_i hl
      exact ⟨by rw [← r1.length]; exact lim_ok hl, fun p hp0 => Fin.mkTup s1 hp0 r1 h1⟩
    · exact h1.elim⟩
/-- a new list at p, seen from Hs -/
theorem Fin.newLst {Hs : Hp} {W0 : Wd} {p : Addr} {ds : List D} {vs : List V} {Q : VK} {hp' : Hc} (x : Ext W0 Hs W H) (s : St0 F.G W H hp') (hp0 : H p = none) (r : Reps F.G W H ds vs) (h : Fin F wx σ (RepN F.G Hs) W0 Hs Q (.ok (.lst ds) hp')) : Q (.ref p) (upd H p (.lst vs)) :=
  h W _ _ (x.trans (ext_own s hp0)) (st_own s hp0) ⟨p, vs, rfl, upd_same, r.ext (ext_own s hp0).toLk, Classical.byContradiction fun q => x.t p q hp0, fun z => s.ft p z hp0, fun n z => s.mt z hp0⟩
/-- as Fin.bind, the start kept -/
theorem Fin.bindN {α β α' β' : Type} {rel : Wd → Hp → α → β → Prop} {rel' : Wd → Hp → α' → β' → Prop} {Q : β → Hp → Prop} {Q' : β' → Hp → Prop} {r : R α} {k : α → Hc → R α'} (h : Fin F wx σ rel' W H Q' (r.bind k))
    (nx : ∀ d hp' W' v H', Ext W H W' H' → St0 F.G W' H' hp' → rel W' H' d v → Fin F wx σ rel' W H Q' (k d hp') → Q v H') : Fin F wx σ rel W H Q r := by
  cases r with
  | ok d hp => exact fun W2 v H2 x2 s2 r2 => nx d hp W2 v H2 x2 s2 r2 h
  | ex c hp => exact h
  | bad => exact h
theorem n_lst {es : List Expr} {am : AM} {pos : Pos} (h : PA X es (TrA F wx am)) : PE X (.List es pos) (TrN F wx (eLst am)) :=
  PE.imp (pe_lst h) fun σ H Q ⟨W, ρ, hp, g, h⟩ => ⟨W, ρ, hp, g, Fin.bindN h fun ds hp1 W1 vs H1 x1 s1 r1 h1 => by
    split at h1
    · rename_i hl
      exact ⟨by rw [← r1.length]; exact lim_ok hl, fun p hp0 => Fin.newLst x1 s1 hp0 r1 h1⟩
    · exact h1.elim⟩
/-! ### a[i] -/
def opIx (x y : D) (h : Hc) : R D := match unbox h x, y with
  | .lst ds, .int i => (match atI ds i with | some d => .ok d h | none => .bad)
  | .tup ds, .int i => (match atI ds i with | some d => .ok d h | none => .bad)
  | .str s, .int i => if s.length ≤ 16777216 then (match atI s i with | some c => .ok (.str [c]) h | none => .bad) else .bad
  | _, _ => .bad
theorem atI_rep {ds : List D} {vs : List V} {i : Int} {d : D} (r : Reps G W H ds vs) (e : atI ds i = some d) : ∃ v, atI vs i = some v ∧ Rep G W H d v := by
  unfold atI at e ⊢
  rw [r.length] at e
  cases h : ixN vs.length i with
  | none => rw [h] at e; cases e
  | some j =>
    rw [h] at e
    obtain ⟨v, h1, h2⟩ := r.get (show ds[j]? = some d from e)
    exact ⟨v, h1, h2⟩
theorem okS_at {s : List Nat} {i : Int} {c : Nat} (o : okS s) (e : atI s i = some c) : okS [c] := by
  unfold atI at e
  cases h : ixN s.length i with
  | none => rw [h] at e; cases e
  | some j =>
    rw [h] at e
    have hm := List.mem_of_getElem? (show s[j]? = some c from e)
    have q := List.all_eq_true.mp o c hm
    show ([c].all fun c => decide (c < 0x110000)) = true
    simp only [List.all_cons, List.all_nil, Bool.and_true]
    exact q
theorem s_ix (hK : F.G.K = X.K) : OpS F (RepB F.G) (RepB F.G) opIx (rIx X.K) := by
  intro wx σ W H hp x y v u Q s rx ry h
  have ux := unbox_rep s rx
  unfold opIx at h
  split at h
  · rename_i ds i e1
    rw [e1] at ux
    cases ry
    obtain ⟨p, vs, ep, tp, rp⟩ := ux
    split at h
    · rename_i d e3
      obtain ⟨v2, h1, h2⟩ := atI_rep rp e3
      exact .inl ⟨p, vs, i, v2, ep, rfl, SqL.of tp, h1, Fin.here h s h2⟩
    · exact h.elim
  · rename_i ds i e1
    rw [e1] at ux
    cases ry
    obtain ⟨p, vs, ep, tp, rp⟩ := ux
    split at h
    · rename_i d e3
      obtain ⟨v2, h1, h2⟩ := atI_rep rp e3
      exact .inr (.inl ⟨p, vs, i, v2, ep, rfl, hK ▸ tp.sq, h1, Fin.here h s h2⟩)
    · exact h.elim
  · rename_i z i e1
    rw [e1] at ux
    cases ry
    obtain ⟨rfl, o⟩ := ux
    split at h
    · rename_i hl
      split at h
      · rename_i c e3
        exact .inr (.inr ⟨_, i, c, rfl, rfl, by rw [str_len]; exact lim_ok hl, e3, Fin.here h s ⟨rfl, okS_at o e3⟩⟩)
      · exact h.elim
    · exact h.elim
  · exact h.elim
theorem e_ix {a b : Expr} {ea eb : EM} {pos : Pos} (hK : F.G.K = X.K) (ha : PE X a (TrB F wx ea)) (hb : PE X b (TrE F wx eb)) (hs : PlainIx b := by exact fun _ _ => rfl) : PE X (.Subscript a b pos) (TrE F wx (eBin opIx ea eb)) :=
  PE.imp (pe_ix ix_seq ha (toB hb) hs) fun σ H Q ⟨W, ρ, hp, g, h⟩ => ⟨W, ρ, hp, g, bin_imp mono_repB (s_ix hK) g h⟩
/-! ### a[lo:hi] -/
abbrev PM := Rho → Hc → R (Option Int)
def TrP (F : Fr) (wx : WX) (pm : PM) : TO := fun σ H Q => ∃ W ρ hp, Gd F W ρ hp σ H ∧ Fin F wx σ (fun _ _ o o' => o = o') W H Q (pm ρ hp)
def pNo : PM := fun _ h => .ok none h
def pAt (a : EM) : PM := fun ρ h => (a ρ h).bind fun x h1 => match x with
  | .int i => .ok (some i) h1
  | _ => .bad
theorem PO.imp {e : Option Expr} {t t' : TO} (h : PO X e t) (k : ∀ σ H Q, t' σ H Q → t σ H Q) : PO X e t' := ⟨fun p s σ H Q I q => h.run p s σ H Q I (k σ H Q q)⟩
theorem p_no : PO X none (TrP F wx pNo) := PO.imp po_none fun σ H Q ⟨W, ρ, hp, g, h⟩ => Fin.here h g.st rfl
theorem p_at {e : Expr} {em : EM} (h : PE X e (TrE F wx em)) : PO X (some e) (TrP F wx (pAt em)) := PO.imp (po_some h) fun σ H Q ⟨W, ρ, hp, g, h⟩ => ⟨W, ρ, hp, g, Fin.bind h fun d hp1 W1 v H1 x1 s1 r1 h1 => by
  split at h1
  · cases r1
    exact ⟨_, rfl, Fin.here h1 s1 rfl⟩
  · exact h1.elim⟩
/-- what a slice takes -/
def cutL {α : Type} (xs : List α) (lo hi : Option Int) : List α := (xs.drop (HT.sIx xs.length 0 lo)).take (HT.sIx xs.length xs.length hi - HT.sIx xs.length 0 lo)
def slOp (x : D) (lo hi : Option Int) (h : Hc) : R D := match unbox h x with
  | .lst ds => .ok (.lst (cutL ds lo hi)) h
  | .scr ds => .ok (.lst (cutL ds lo hi)) h
  | .tup ds => .ok (.tup (cutL ds lo hi)) h
  | .str s => if s.length ≤ 16777216 then .ok (.str (cutL s lo hi)) h else .bad
  | _ => .bad
def eSl (a : EM) (lo hi : PM) : EM := fun ρ h => (a ρ h).bind fun x h1 => (lo ρ h1).bind fun l h2 => (hi ρ h2).bind fun u h3 => slOp x l u h3
def rSl (K : PySem.W.Frag) : V → Option Int → Option Int → Hp → VK → Prop := fun x lo hi H Q => rSlL K x lo hi H Q ∨ rSlA K x lo hi H Q ∨ rSlS x lo hi H Q
theorem sl_all : SlR X (rSl X.K) := sl_list.or (sl_tupA.or sl_str)
theorem Reps.cut {ds : List D} {vs : List V} (r : Reps G W H ds vs) (lo hi : Option Int) : Reps G W H (cutL ds lo hi) (cutV vs lo hi) := by
  unfold cutL cutV
  rw [r.length]
  exact (r.drop _).take _
theorem okS_sub {a b : List Nat} (h : okS a) (k : ∀ c ∈ b, c ∈ a) : okS b := List.all_eq_true.mpr fun c hc => List.all_eq_true.mp h c (k c hc)
theorem okS_cut {a : List Nat} (h : okS a) (lo hi : Option Int) : okS (cutL a lo hi) := okS_sub h fun c hc => List.mem_of_mem_drop (List.mem_of_mem_take hc)
theorem cut_whole {α : Type} {xs : List α} {lo hi : Option Int} (h : HT.sIx xs.length 0 lo = 0 ∧ HT.sIx xs.length xs.length hi = xs.length) : cutL xs lo hi = xs := by
  unfold cutL
  rw [h.1, h.2, List.drop_zero, Nat.sub_zero, List.take_length]
theorem sl_imp {x : D} {v : V} {lo hi : Option Int} {Q : VK} (hK : F.G.K = X.K) (s : St0 F.G W H hp) (rx : RepB F.G W H x v) (h : Fin F wx σ (Rep F.G) W H Q (slOp x lo hi hp)) : rSl X.K v lo hi H Q := by
  have ux := unbox_rep s rx
  unfold slOp at h
  split at h
  · rename_i ds e1
    rw [e1] at ux
    obtain ⟨p, vs, ep, tp, rp⟩ := ux
    exact .inl ⟨p, vs, ep, SqL.of tp, fun q hq => Fin.mkLst s hq (rp.cut lo hi) h⟩
  · rename_i ds e1
    rw [e1] at ux
    obtain ⟨p, vs, ep, tp, rp⟩ := ux
    have sq : SqL F.G.K H p vs := tp.elim (fun z => .inl z.2) .inr
    exact .inl ⟨p, vs, ep, hK ▸ sq, fun q hq => Fin.mkLst s hq (rp.cut lo hi) h⟩
  · rename_i ds e1
    rw [e1] at ux
    obtain ⟨p, vs, ep, tp, rp⟩ := ux
    refine .inr (.inl ⟨p, vs, ep, hK ▸ tp.sq, fun z => ?_, fun _ q hq => Fin.mkTup s hq (rp.cut lo hi) h⟩)
    rw [← rp.length] at z
    rw [cut_whole z] at h
    exact Fin.here h s ⟨p, vs, rfl, tp, rp⟩
  · rename_i z e1
    rw [e1] at ux
    obtain ⟨rfl, o⟩ := ux
    split at h
    · rename_i hl
      refine .inr (.inr ⟨_, rfl, by rw [str_len]; exact lim_ok hl, ?_⟩)
      have e : cutS ⟨z.toArray⟩ lo hi = ⟨(cutL z lo hi).toArray⟩ := by
        unfold cutS cutL
        rw [str_len]
      rw [e]
      exact Fin.here h s ⟨rfl, okS_cut o lo hi⟩
    · exact h.elim
  · exact h.elim
theorem e_sl {a : Expr} {lo hi : Option Expr} {ea : EM} {pl ph : PM} {p2 pos : Pos} (hK : F.G.K = X.K) (ha : PE X a (TrB F wx ea)) (hl : PO X lo (TrP F wx pl)) (hh : PO X hi (TrP F wx ph)) : PE X (.Subscript a (.Slice lo hi none p2) pos) (TrE F wx (eSl ea pl ph)) :=
  PE.imp (pe_slice sl_all ha hl hh) fun σ H Q ⟨W, ρ, hp, g, h⟩ => ⟨W, ρ, hp, g, Fin.bind h fun d hp1 W1 v H1 x1 s1 r1 h1 => ⟨W1, ρ, hp1, g.ext x1 s1, Fin.bind h1 fun l hp2 W2 l' H2 x2 s2 r2 h2 => by
    cases r2
    refine ⟨W2, ρ, hp2, (g.ext x1 s1).ext x2 s2, Fin.bind h2 fun u hp3 W3 u' H3 x3 s3 r3 h3 => ?_⟩
    cases r3
    exact sl_imp hK s3 (r1.ext (x2.trans x3)) h3⟩⟩
end
end Z

/-! Z7: calls of built-ins, texts -/
namespace Z
open PySem PySem.Spec PyProof.Rows L2

section
variable {F : Fr} {X : Cx} {wx : WX} {σ : L2.St} {G : Gl} {W W' : Wd} {H H' : Hp} {hp : Hc}
/-- what a built-in does with data -/
abbrev BM := List D → Hc → R D
def BiS (F : Fr) (b : BM) (r : List V → Hp → VK → Prop) : Prop :=
  ∀ (wx : WX) (σ : L2.St) (W : Wd) (H : Hp) (hp : Hc) (xs : List D) (vs : List V) (Q : VK), St0 F.G W H hp → RepsB F.G W H xs vs → Fin F wx σ (Rep F.G) W H Q (b xs hp) → r vs H Q
def BiN (F : Fr) (b : BM) (r : List V → Hp → VK → Prop) : Prop :=
  ∀ (wx : WX) (σ : L2.St) (W0 : Wd) (H0 : Hp) (W : Wd) (H : Hp) (hp : Hc) (xs : List D) (vs : List V) (Q : VK), Ext W0 H0 W H → St0 F.G W H hp → RepsB F.G W H xs vs → Fin F wx σ (RepN F.G H0) W0 H0 Q (b xs hp) → r vs H Q
def eBi (b : BM) (am : AM) : EM := fun ρ h => (am ρ h).bind fun xs h1 => b xs h1
theorem bi_imp {b : BM} {r : List V → Hp → VK → Prop} {am : AM} (hs : BiS F b r) {Q : VK} {ρ : Rho} (g : Gd F W ρ hp σ H) (h : Fin F wx σ (Rep F.G) W H Q (eBi b am ρ hp)) : tCB r (TrAB F wx am) σ H Q :=
  ⟨W, ρ, hp, g, Fin.bind h fun xs hp1 W1 vs H1 x1 s1 r1 h1 => hs wx σ W1 H1 hp1 xs vs Q s1 r1 h1⟩
theorem bn_imp {b : BM} {r : List V → Hp → VK → Prop} {am : AM} (hs : BiN F b r) {Q : VK} {ρ : Rho} (g : Gd F W ρ hp σ H) (h : Fin F wx σ (RepN F.G H) W H Q (eBi b am ρ hp)) : tCB r (TrAB F wx am) σ H Q :=
  ⟨W, ρ, hp, g, Fin.bindN h fun xs hp1 W1 vs H1 x1 s1 r1 h1 => hs wx σ W H W1 H1 hp1 xs vs Q x1 s1 r1 h1⟩
section
variable {id T : String} {b : BM} {r : List V → Hp → VK → Prop} {x : Str} {p pos : Pos} {e : Expr} {es : List Expr} {am : AM}
theorem e_bi (hc : CallR X (.builtin id) r) (hs : BiS F b r) (hm : X.mg x = none) (hv : bootBuiltins x = some (.builtin id)) (ha : PA X (e :: es) (TrAB F wx am)) (hg : L2.Gl X x := by rfl) (hn : x ≠ "__name__" := by decide) (hdb : (x == ("__debug__" : Str)) = false := by decide)
    (he : starEach (e :: es) X.env = (false, eval e X.env) :: starEach es X.env := by rfl) (hpl : (backTo pos (starEach es X.env)).any (·.1) = false := by rfl) : PE X (.Call (.Name x p) (e :: es) [] pos) (TrE F wx (eBi b am)) :=
  PE.imp (pe_callB hc hg hm hv ha hn hdb he hpl) fun σ H Q ⟨W, ρ, hp, g, h⟩ => bi_imp hs g h
theorem e_biT (hc : CallR X (.type T) r) (hs : BiS F b r) (hm : X.mg x = none) (hv : bootBuiltins x = some (.type T)) (ha : PA X (e :: es) (TrAB F wx am)) (hg : L2.Gl X x := by rfl) (hn : x ≠ "__name__" := by decide) (hdb : (x == ("__debug__" : Str)) = false := by decide)
    (he : starEach (e :: es) X.env = (false, eval e X.env) :: starEach es X.env := by rfl) (hpl : (backTo pos (starEach es X.env)).any (·.1) = false := by rfl) : PE X (.Call (.Name x p) (e :: es) [] pos) (TrE F wx (eBi b am)) :=
  PE.imp (pe_callTy hc hg hm hv ha hn hdb he hpl) fun σ H Q ⟨W, ρ, hp, g, h⟩ => bi_imp hs g h
theorem n_bi (hc : CallR X (.builtin id) r) (hs : BiN F b r) (hm : X.mg x = none) (hv : bootBuiltins x = some (.builtin id)) (ha : PA X (e :: es) (TrAB F wx am)) (hg : L2.Gl X x := by rfl) (hn : x ≠ "__name__" := by decide) (hdb : (x == ("__debug__" : Str)) = false := by decide)
    (he : starEach (e :: es) X.env = (false, eval e X.env) :: starEach es X.env := by rfl) (hpl : (backTo pos (starEach es X.env)).any (·.1) = false := by rfl) : PE X (.Call (.Name x p) (e :: es) [] pos) (TrN F wx (eBi b am)) :=
  PE.imp (pe_callB hc hg hm hv ha hn hdb he hpl) fun σ H Q ⟨W, ρ, hp, g, h⟩ => bn_imp hs g h
theorem n_biT (hc : CallR X (.type T) r) (hs : BiN F b r) (hm : X.mg x = none) (hv : bootBuiltins x = some (.type T)) (ha : PA X (e :: es) (TrAB F wx am)) (hg : L2.Gl X x := by rfl) (hn : x ≠ "__name__" := by decide) (hdb : (x == ("__debug__" : Str)) = false := by decide)
    (he : starEach (e :: es) X.env = (false, eval e X.env) :: starEach es X.env := by rfl) (hpl : (backTo pos (starEach es X.env)).any (·.1) = false := by rfl) : PE X (.Call (.Name x p) (e :: es) [] pos) (TrN F wx (eBi b am)) :=
  PE.imp (pe_callTy hc hg hm hv ha hn hdb he hpl) fun σ H Q ⟨W, ρ, hp, g, h⟩ => bn_imp hs g h
end
theorem repsB1 {d : D} {vs : List V} (r : RepsB G W H [d] vs) : ∃ v, vs = [v] ∧ RepB G W H d v := by
  obtain ⟨v, r, e, h, t⟩ := r
  cases t
  exact ⟨v, e, h⟩
theorem repsB2 {d d2 : D} {vs : List V} (r : RepsB G W H [d, d2] vs) : ∃ v v2, vs = [v, v2] ∧ RepB G W H d v ∧ RepB G W H d2 v2 := by
  obtain ⟨v, r, e, h, v2, r2, e2, h2, t⟩ := r
  cases t
  subst e2
  exact ⟨v, v2, e, h, h2⟩
/-! ### len -/
def bLen : BM := fun xs h => match xs with
  | [x] => (match unbox h x with
    | .lst ds => .ok (.int ds.length) h
    | .tup ds => .ok (.int ds.length) h
    | .str s => if s.length ≤ 16777216 then .ok (.int s.length) h else .bad
    | _ => .bad)
  | _ => .bad
theorem s_len (hK : F.G.K = X.K) : BiS F bLen (fun xs H Q => ∃ x n, xs = [x] ∧ LenV X.K x H n ∧ Q (.int n) H) := by
  intro wx σ W H hp xs vs Q s r h
  unfold bLen at h
  split at h
  · rename_i x
    obtain ⟨v, rfl, r1⟩ := repsB1 r
    have ux := unbox_rep s r1
    split at h
    · rename_i ds e1
      rw [e1] at ux
      obtain ⟨p, vs, rfl, tp, rp⟩ := ux
      refine ⟨_, ds.length, rfl, .inl ⟨vs, SqL.of tp, rp.length⟩, Fin.here h s rfl⟩
    · rename_i ds e1
      rw [e1] at ux
      obtain ⟨p, vs, rfl, tp, rp⟩ := ux
      refine ⟨_, ds.length, rfl, .inr ⟨vs, hK ▸ tp.sq, rp.length⟩, Fin.here h s rfl⟩
    · rename_i z e1
      rw [e1] at ux
      obtain ⟨rfl, o⟩ := ux
      split at h
      · rename_i hl
        exact ⟨_, z.length, rfl, ⟨by rw [str_len]; exact lim_ok hl, (str_len z).symm⟩, Fin.here h s rfl⟩
      · exact h.elim
    · exact h.elim
  · exact h.elim
/-! ### int, abs -/
def bInt : BM := fun xs h => match xs with
  | [.int i] => .ok (.int i) h
  | [.bl k] => .ok (.int (if k then 1 else 0)) h
  | [.str s] => if s ≠ [] ∧ s.length ≤ 640 ∧ s.all (fun c => decide (48 ≤ c) && decide (c ≤ 57)) = true then .ok (.int (NumText.digitsVal s : Nat)) h else .bad
  | _ => .bad
def rInt : List V → Hp → VK → Prop := fun xs H Q => ((∃ i, xs = [.int i] ∧ Q (.int i) H) ∨ ∃ k, xs = [.bl k] ∧ Q (.int (if k then 1 else 0)) H) ∨ (∃ a n, xs = [.str a] ∧ PySem.intText? a = some n ∧ a.length ≤ 640 ∧ Q (.int n) H)
theorem call_intAll : CallR X (.type "int") rInt := call_int1.or call_int_str
theorem s_int : BiS F bInt rInt := by
  intro wx σ W H hp xs vs Q s r h
  unfold bInt at h
  split at h
  · obtain ⟨v, rfl, r1⟩ := repsB1 r
    cases r1
    exact .inl (.inl ⟨_, rfl, Fin.here h s rfl⟩)
  · obtain ⟨v, rfl, r1⟩ := repsB1 r
    cases r1
    exact .inl (.inr ⟨_, rfl, Fin.here h s rfl⟩)
  · rename_i z
    obtain ⟨v, rfl, r1⟩ := repsB1 r
    obtain ⟨rfl, o⟩ := r1
    split at h
    · rename_i hc
      refine .inr ⟨_, _, rfl, SX.int_S hc.2.2 hc.1 (by omega), by rw [str_len]; exact hc.2.1, Fin.here h s rfl⟩
    · exact h.elim
  · exact h.elim
def bAbs : BM := fun xs h => match xs with
  | [.int i] => .ok (.int (if i < 0 then -i else i)) h
  | _ => .bad
theorem s_abs : BiS F bAbs (fun xs H Q => ∃ i, xs = [.int i] ∧ Q (.int (if i < 0 then -i else i)) H) := by
  intro wx σ W H hp xs vs Q s r h
  unfold bAbs at h
  split at h
  · obtain ⟨v, rfl, r1⟩ := repsB1 r
    cases r1
    exact ⟨_, rfl, Fin.here h s rfl⟩
  · exact h.elim
/-! ### min, max -/
def bMin2 : BM := fun xs h => match xs with
  | [.int i, .int j] => .ok (.int (if j < i then j else i)) h
  | _ => .bad
def bMax2 : BM := fun xs h => match xs with
  | [.int i, .int j] => .ok (.int (if j > i then j else i)) h
  | _ => .bad
theorem s_min2 : BiS F bMin2 (fun xs H Q => ∃ i j, xs = [.int i, .int j] ∧ Q (.int (if j < i then j else i)) H) := by
  intro wx σ W H hp xs vs Q s r h
  unfold bMin2 at h
  split at h
  · obtain ⟨v, v2, rfl, r1, r2⟩ := repsB2 r
    cases r1; cases r2
    exact ⟨_, _, rfl, Fin.here h s rfl⟩
  · exact h.elim
theorem s_max2 : BiS F bMax2 (fun xs H Q => ∃ i j, xs = [.int i, .int j] ∧ Q (.int (if j > i then j else i)) H) := by
  intro wx σ W H hp xs vs Q s r h
  unfold bMax2 at h
  split at h
  · obtain ⟨v, v2, rfl, r1, r2⟩ := repsB2 r
    cases r1; cases r2
    exact ⟨_, _, rfl, Fin.here h s rfl⟩
  · exact h.elim
/-- whole numbers alone -/
def ints? : List D → Option (List Int)
  | [] => some []
  | .int i :: r => (ints? r).map (i :: ·)
  | _ :: _ => none
theorem ints_rep : ∀ {ds : List D} {vs : List V} {ns : List Int}, ints? ds = some ns → Reps G W H ds vs → vs = ns.map V.int
  | [], _, _, e, r => by cases r; cases e; rfl
  | .int i :: ds, _, _, e, ⟨v, r, rfl, h, t⟩ => by
    simp only [ints?, Option.map_eq_some_iff] at e
    obtain ⟨ns, e1, rfl⟩ := e
    cases h
    rw [ints_rep e1 t]
    rfl
def bSum : BM := fun xs h => match xs with
  | [x] => (match unbox h x with
    | .lst ds => (match ints? ds with | some ns => .ok (.int ns.sum) h | none => .bad)
    | _ => .bad)
  | _ => .bad
theorem s_sum (hK : F.G.K = X.K) : BiS F bSum (rSum X.K) := by
  intro wx σ W H hp xs vs Q s r h
  unfold bSum at h
  split at h
  · obtain ⟨v, rfl, r1⟩ := repsB1 r
    have ux := unbox_rep s r1
    split at h
    · rename_i ds e1
      rw [e1] at ux
      obtain ⟨p, vs, rfl, tp, rp⟩ := ux
      split at h
      · rename_i ns en
        have ev := ints_rep en rp
        subst ev
        exact ⟨p, ns, rfl, SqL.of tp, Fin.here h s rfl⟩
      · exact h.elim
    · exact h.elim
  · exact h.elim
def minI : List Int → Int
  | [] => 0
  | [x] => x
  | x :: r => min x (minI r)
def maxI : List Int → Int
  | [] => 0
  | [x] => x
  | x :: r => max x (maxI r)
theorem minI_mem : ∀ {l : List Int}, 0 < l.length → minI l ∈ l ∧ ∀ y, y ∈ l → minI l ≤ y
  | [], h => by simp at h
  | [x], _ => by simp [minI]
  | x :: y :: r, _ => by
    obtain ⟨h1, h2⟩ := minI_mem (l := y :: r) (by simp)
    have e : minI (x :: y :: r) = min x (minI (y :: r)) := rfl
    rw [e]
    refine ⟨?_, fun z hz => ?_⟩
    · rcases Int.le_total x (minI (y :: r)) with q | q
      · rw [Int.min_eq_left q]; exact List.mem_cons_self
      · rw [Int.min_eq_right q]; exact List.mem_cons_of_mem _ h1
    · rcases List.mem_cons.mp hz with q | q
      · rw [q]; exact Int.min_le_left _ _
      · exact Int.le_trans (Int.min_le_right _ _) (h2 z q)
theorem maxI_mem : ∀ {l : List Int}, 0 < l.length → maxI l ∈ l ∧ ∀ y, y ∈ l → y ≤ maxI l
  | [], h => by simp at h
  | [x], _ => by simp [maxI]
  | x :: y :: r, _ => by
    obtain ⟨h1, h2⟩ := maxI_mem (l := y :: r) (by simp)
    have e : maxI (x :: y :: r) = max x (maxI (y :: r)) := rfl
    rw [e]
    refine ⟨?_, fun z hz => ?_⟩
    · rcases Int.le_total x (maxI (y :: r)) with q | q
      · rw [Int.max_eq_right q]; exact List.mem_cons_of_mem _ h1
      · rw [Int.max_eq_left q]; exact List.mem_cons_self
    · rcases List.mem_cons.mp hz with q | q
      · rw [q]; exact Int.le_max_left _ _
      · exact Int.le_trans (h2 z q) (Int.le_max_right _ _)
def bMin : BM := fun xs h => match xs with
  | [x] => (match unbox h x with
    | .lst ds => (match ints? ds with | some ns => if 0 < ns.length then .ok (.int (minI ns)) h else .bad | none => .bad)
    | _ => .bad)
  | _ => .bad
def bMax : BM := fun xs h => match xs with
  | [x] => (match unbox h x with
    | .lst ds => (match ints? ds with | some ns => if 0 < ns.length then .ok (.int (maxI ns)) h else .bad | none => .bad)
    | _ => .bad)
  | _ => .bad
theorem s_minL : BiS F bMin (rMin X.K) := by
  intro wx σ W H hp xs vs Q s r h
  unfold bMin at h
  split at h
  · obtain ⟨v, rfl, r1⟩ := repsB1 r
    have ux := unbox_rep s r1
    split at h
    · rename_i ds e1
      rw [e1] at ux
      obtain ⟨p, vs, rfl, tp, rp⟩ := ux
      split at h
      · rename_i ns en
        have ev := ints_rep en rp
        subst ev
        split at h
        · rename_i hl
          obtain ⟨k1, k2⟩ := minI_mem hl
          exact ⟨p, ns, rfl, SqL.of tp, hl, fun m h1 h2 => by
            have : m = minI ns := by
              have a := h2 _ k1
              have b := k2 _ h1
              omega
            rw [this]
            exact Fin.here h s rfl⟩
        · exact h.elim
      · exact h.elim
    · exact h.elim
  · exact h.elim
theorem s_maxL : BiS F bMax (rMax X.K) := by
  intro wx σ W H hp xs vs Q s r h
  unfold bMax at h
  split at h
  · obtain ⟨v, rfl, r1⟩ := repsB1 r
    have ux := unbox_rep s r1
    split at h
    · rename_i ds e1
      rw [e1] at ux
      obtain ⟨p, vs, rfl, tp, rp⟩ := ux
      split at h
      · rename_i ns en
        have ev := ints_rep en rp
        subst ev
        split at h
        · rename_i hl
          obtain ⟨k1, k2⟩ := maxI_mem hl
          exact ⟨p, ns, rfl, SqL.of tp, hl, fun m h1 h2 => by
            have : m = maxI ns := by
              have a := h2 _ k1
              have b := k2 _ h1
              omega
            rw [this]
            exact Fin.here h s rfl⟩
        · exact h.elim
      · exact h.elim
    · exact h.elim
  · exact h.elim
/-! ### list(x), tuple(x) -/
def bList : BM := fun xs h => match xs with
  | [x] => (match unbox h x with
    | .lst ds => .ok (.lst ds) h
    | .tup ds => .ok (.lst ds) h
    | _ => .bad)
  | _ => .bad
def rLst (K : PySem.W.Frag) : List V → Hp → VK → Prop := fun xs H Q => ∃ p ys, xs = [.ref p] ∧ (SqL K H p ys ∨ SqT K H p ys) ∧ ∀ l, H l = none → Q (.ref l) (upd H l (.lst ys))
theorem s_listN (hK : F.G.K = X.K) : BiN F bList (rLst X.K) := by
  intro wx σ W0 H0 W H hp xs vs Q x0 s r h
  unfold bList at h
  split at h
  · obtain ⟨v, rfl, r1⟩ := repsB1 r
    have ux := unbox_rep s r1
    split at h
    · rename_i ds e1
      rw [e1] at ux
      obtain ⟨p, vs, rfl, tp, rp⟩ := ux
      exact ⟨p, vs, rfl, .inl (SqL.of tp), fun l hl => Fin.newLst x0 s hl rp h⟩
    · rename_i ds e1
      rw [e1] at ux
      obtain ⟨p, vs, rfl, tp, rp⟩ := ux
      exact ⟨p, vs, rfl, .inr (hK ▸ tp.sq), fun l hl => Fin.newLst x0 s hl rp h⟩
    · exact h.elim
  · exact h.elim
def bTuple : BM := fun xs h => match xs with
  | [x] => (match unbox h x with
    | .lst ds => .ok (.tup ds) h
    | .tup ds => .ok (.tup ds) h
    | _ => .bad)
  | _ => .bad
def rTpl (K : PySem.W.Frag) : List V → Hp → VK → Prop := fun xs H Q => ∃ p ys, xs = [.ref p] ∧ ((SqL K H p ys ∧ ∀ l, H l = none → Q (.ref l) (upd H l (.tup ys))) ∨ (SqT K H p ys ∧ Q (.ref p) H))
theorem s_tuple (hK : F.G.K = X.K) : BiS F bTuple (rTpl X.K) := by
  intro wx σ W H hp xs vs Q s r h
  unfold bTuple at h
  split at h
  · obtain ⟨v, rfl, r1⟩ := repsB1 r
    have ux := unbox_rep s r1
    split at h
    · rename_i ds e1
      rw [e1] at ux
      obtain ⟨p, vs, rfl, tp, rp⟩ := ux
      exact ⟨p, vs, rfl, .inl ⟨SqL.of tp, fun l hl => Fin.mkTup s hl rp h⟩⟩
    · rename_i ds e1
      rw [e1] at ux
      obtain ⟨p, vs, rfl, tp, rp⟩ := ux
      exact ⟨p, vs, rfl, .inr ⟨hK ▸ tp.sq, Fin.here h s ⟨p, vs, rfl, tp, rp⟩⟩⟩
    · exact h.elim
  · exact h.elim
/-! ### str(n), f'..' -/
def numD (i : Int) : List Nat := TL.numL i.toNat
theorem okS_num (n : Nat) : okS (TL.numL n) := by
  unfold okS TL.numL
  rw [List.all_map]
  refine List.all_eq_true.mpr fun c hc => ?_
  have h : UInt32.isValidChar c.val := c.valid
  have h2 : c.val.toNat < 0xd800 ∨ (0xdfff < c.val.toNat ∧ c.val.toNat < 0x110000) := h
  simp only [Function.comp, decide_eq_true_eq]
  show c.val.toNat < 0x110000
  omega
theorem str_num {i : Int} (h : 0 ≤ i) : Str.ofString (toString i) = ⟨(numD i).toArray⟩ := by
  have e : i = ((i.toNat : Nat) : Int) := (Int.toNat_of_nonneg h).symm
  unfold numD
  rw [e]
  exact TL.ext_tl (by rw [TL.tl_num]; rfl)
theorem log_ok {i : Int} (h : 0 ≤ i ∧ i < 2 ^ 64) : i.natAbs.log2 < 1920 := by
  have h2 : i.natAbs < 2 ^ 64 := by omega
  by_cases hz : i.natAbs = 0
  · rw [hz]; decide
  · have := (Nat.log2_lt hz).mpr h2
    omega
def bStr : BM := fun xs h => match xs with
  | [.int i] => if 0 ≤ i ∧ i < 2 ^ 64 then .ok (.str (numD i)) h else .bad
  | _ => .bad
theorem s_str : BiS F bStr (fun xs H Q => ∃ i, xs = [.int i] ∧ i.natAbs.log2 < 1920 ∧ Q (.str (toString i)) H) := by
  intro wx σ W H hp xs vs Q s r h
  unfold bStr at h
  split at h
  · obtain ⟨v, rfl, r1⟩ := repsB1 r
    cases r1
    split at h
    · rename_i hc
      refine ⟨_, rfl, log_ok hc, ?_⟩
      show Q (.str (Str.ofString (toString _))) H
      rw [str_num hc.1]
      exact Fin.here h s ⟨rfl, okS_num _⟩
    · exact h.elim
  · exact h.elim
def eFmt (a : EM) : EM := fun ρ h => (a ρ h).bind fun x h1 => match x with
  | .str s => if s.length ≤ 16777216 then .ok (.str s) h1 else .bad
  | .int i => if 0 ≤ i ∧ i < 2 ^ 64 then .ok (.str (numD i)) h1 else .bad
  | _ => .bad
theorem e_fmt {a : Expr} {ea : EM} {pos : Pos} (ha : PE X a (TrE F wx ea)) : PE X (.FormattedValue a (-1) none pos) (TrE F wx (eFmt ea)) :=
  PE.imp (pe_fmt ha) fun σ H Q ⟨W, ρ, hp, g, h⟩ => ⟨W, ρ, hp, g, Fin.bind h fun d hp1 W1 v H1 x1 s1 r1 h1 => by
    split at h1
    · obtain ⟨rfl, o⟩ := r1
      split at h1
      · rename_i hl
        exact .inl ⟨_, rfl, by rw [str_len]; exact lim_ok hl, Fin.here h1 s1 ⟨rfl, o⟩⟩
      · exact h1.elim
    · cases r1
      split at h1
      · rename_i hc
        refine .inr ⟨_, rfl, log_ok hc, ?_⟩
        show Q (.str (Str.ofString (toString _))) H1
        rw [str_num hc.1]
        exact Fin.here h1 s1 ⟨rfl, okS_num _⟩
      · exact h1.elim
    · exact h1.elim⟩
theorem e_joined1 {a : Expr} {ea : EM} {pos : Pos} (ha : PE X a (TrE F wx ea)) : PE X (.JoinedStr [a] pos) (TrE F wx ea) := pe_joined1 ha
/-- the parts one behind the other -/
def eJs : List EM → List Nat → EM
  | [], acc => fun _ h => .ok (.str acc) h
  | a :: r, acc => fun ρ h => (a ρ h).bind fun x h1 => match x with
    | .str s => if acc.length + s.length ≤ 16777216 then eJs r (acc ++ s) ρ h1 else .bad
    | _ => .bad
theorem js_imp : ∀ {es : List EM} {acc : List Nat} {H : Hp} {Q : VK} {W : Wd} {ρ : Rho} {hp : Hc}, okS acc → Gd F W ρ hp σ H → Fin F wx σ (Rep F.G) W H Q (eJs es acc ρ hp) → tJs (es.map fun em => TrE F wx em) ⟨acc.toArray⟩ σ H fun out H1 => Q (.str out) H1
  | [], acc, H, Q, W, ρ, hp, o, g, h => Fin.here h g.st ⟨rfl, o⟩
  | a :: r, acc, H, Q, W, ρ, hp, o, g, h => ⟨W, ρ, hp, g, Fin.bind h fun d hp1 W1 v H1 x1 s1 r1 h1 => by
    split at h1
    · obtain ⟨rfl, o1⟩ := r1
      split at h1
      · rename_i hl
        refine ⟨_, rfl, ?_, ?_⟩
        · rw [str_app, str_len, List.length_append]; exact lim_ok hl
        · rw [str_app]
          exact js_imp (okS_app o o1) (g.ext x1 s1) h1
      · exact h1.elim
    · exact h1.elim⟩
inductive PJE (F : Fr) (wx : WX) (X : Cx) : List Expr → List EM → Prop where
  | nil : PJE F wx X [] []
  | cons {e : Expr} {em : EM} {es : List Expr} {ems : List EM} (h : PE X e (TrE F wx em)) (r : PJE F wx X es ems) : PJE F wx X (e :: es) (em :: ems)
theorem PJE.pj {es : List Expr} {ems : List EM} (h : PJE F wx X es ems) : PJ X es (ems.map fun em => TrE F wx em) := by
  induction h with
  | nil => exact .nil
  | cons h _ ih => exact .cons h ih
theorem e_joined {v1 v2 : Expr} {rest : List Expr} {ems : List EM} {pos : Pos} (h : PJE F wx X (v1 :: v2 :: rest) ems) : PE X (.JoinedStr (v1 :: v2 :: rest) pos) (TrE F wx (eJs ems [])) :=
  PE.imp (pe_joined h.pj) fun σ H Q ⟨W, ρ, hp, g, q⟩ => js_imp rfl g q
end
end Z

/-! Z8: statements -/
namespace Z
open PySem PySem.Spec PyProof.Rows L2

def R.toS {α : Type} (r : R α) (ρ : Rho) (k : α → Hc → O) : O := match r with
  | .ok a h => k a h
  | .ex c h => .ex c ρ h
  | .bad => .bad
@[simp] theorem R.toS_ok {α : Type} (a : α) (h : Hc) (ρ : Rho) (k : α → Hc → O) : (R.ok a h).toS ρ k = k a h := rfl
@[simp] theorem R.toS_ex {α : Type} (c : Nat) (h : Hc) (ρ : Rho) (k : α → Hc → O) : (R.ex c h : R α).toS ρ k = .ex c ρ h := rfl
@[simp] theorem R.toS_bad {α : Type} (ρ : Rho) (k : α → Hc → O) : (R.bad : R α).toS ρ k = .bad := rfl

/-- what a statement's answer asks of what follows -/
def FinS (F : Fr) (wx : WX) (W : Wd) (H : Hp) (D : Ends) : O → Prop
  | .nx ρ hp => ∀ W' σ' H', Gd F W' ρ hp σ' H' → Lk W H W' H' → D.nx σ' H'
  | .bk ρ hp => ∀ W' σ' H', Gd F W' ρ hp σ' H' → Lk W H W' H' → D.bk σ' H'
  | .ct ρ hp => ∀ W' σ' H', Gd F W' ρ hp σ' H' → Lk W H W' H' → D.ct σ' H'
  | .rt d hp => ∀ W' v H', Ext F.W0 F.H0 W' H' → St0 F.G W' H' hp → Rep F.G W' H' d v → D.rt v H'
  | .ex c ρ hp => ∀ W' σ' H', Gd F W' ρ hp σ' H' → Lk W H W' H' → wx (.ref (F.G.ca c)) none σ' H'
  | .bad => False
def TrS (F : Fr) (wx : WX) (sm : SM) : TS := fun D σ H => ∃ W ρ hp, Gd F W ρ hp σ H ∧ FinS F wx W H D (sm ρ hp)

section
variable {F : Fr} {X : Cx} {wx : WX} {σ : L2.St} {G : Gl} {W W' W2 : Wd} {H H' H2 : Hp} {hp hp' : Hc} {E : Ends} {ρ : Rho}
theorem Lk.refl (W : Wd) (H : Hp) : Lk W H W H := ⟨fun _ _ h => h, fun _ h => h, fun _ _ h => h, fun _ _ _ e _ => e⟩
theorem Lk.trans (a : Lk W H W' H') (b : Lk W' H' W2 H2) : Lk W H W2 H2 := ⟨fun n x h => b.m n x (a.m n x h), fun x h => b.f x (a.f x h), fun n x h => b.l n x (a.l n x h), fun x o h e n => b.fk x o (a.f x h) (a.fk x o h e n) n⟩
theorem FinS.lk {o : O} (x : Lk W H W' H') (h : FinS F wx W H E o) : FinS F wx W' H' E o := by
  cases o with
  | nx ρ hp => exact fun W2 σ2 H2 g l => h W2 σ2 H2 g (x.trans l)
  | bk ρ hp => exact fun W2 σ2 H2 g l => h W2 σ2 H2 g (x.trans l)
  | ct ρ hp => exact fun W2 σ2 H2 g l => h W2 σ2 H2 g (x.trans l)
  | rt d hp => exact h
  | ex c ρ hp => exact fun W2 σ2 H2 g l => h W2 σ2 H2 g (x.trans l)
  | bad => exact h
theorem FinS.bind {α β : Type} {rel : Wd → Hp → α → β → Prop} {Q : β → Hp → Prop} {r : R α} {k : α → Hc → O} (g : Gd F W ρ hp σ H) (h : FinS F wx W H E (r.toS ρ k))
    (nx : ∀ d hp' W' v H', Ext W H W' H' → Gd F W' ρ hp' σ H' → rel W' H' d v → FinS F wx W' H' E (k d hp') → Q v H') : Fin F wx σ rel W H Q r := by
  cases r with
  | ok d hp' => exact fun W2 v H2 x2 s2 r2 => nx d hp' W2 v H2 x2 (g.ext x2 s2) r2 (FinS.lk x2.toLk h)
  | ex c hp' => exact fun W2 H2 x2 s2 => h W2 σ H2 (g.ext x2 s2) x2.toLk
  | bad => exact h
theorem FinS.hereN {hp : Hc} (h : FinS F wx W H E (.nx ρ hp)) (g : Gd F W' ρ hp σ H') (x : Lk W H W' H') : E.nx σ H' := h W' σ H' g x

/-! ### slots are written -/
theorem set_some {α : Type} {l : List α} {i j : Nat} {a b : α} (h : (l.set i a)[j]? = some b) : (j = i ∧ b = a ∧ i < l.length) ∨ (j ≠ i ∧ l[j]? = some b) := by
  by_cases e : i = j
  · subst e
    have h1 := (List.getElem?_eq_some_iff.mp h).1
    rw [List.length_set] at h1
    rw [List.getElem?_set_self h1] at h
    cases h
    exact .inl ⟨rfl, rfl, h1⟩
  · rw [List.getElem?_set_ne e] at h
    exact .inr ⟨fun z => e z.symm, h⟩
theorem owns_set {i : Nat} {d : D} {v : Option V} {j : Nat} {a : Addr} (h : Owns (ρ.set i (.v d)) (σ.set i v) j a) : j ≠ i ∧ Owns ρ σ j a := by
  obtain ⟨⟨e, h1⟩, h2⟩ := h
  rcases set_some h1 with ⟨_, z, _⟩ | ⟨n, h1⟩
  · cases z
  · refine ⟨n, ⟨e, h1⟩, ?_⟩
    rw [List.getElem?_set_ne (Ne.symm n)] at h2
    exact h2
theorem owns_setU {i : Nat} {v : Option V} {j : Nat} {a : Addr} (h : Owns (ρ.set i .u) (σ.set i v) j a) : j ≠ i ∧ Owns ρ σ j a := by
  obtain ⟨⟨e, h1⟩, h2⟩ := h
  rcases set_some h1 with ⟨_, z, _⟩ | ⟨n, h1⟩
  · cases z
  · refine ⟨n, ⟨e, h1⟩, ?_⟩
    rw [List.getElem?_set_ne (Ne.symm n)] at h2
    exact h2
theorem Gd.set {i : Nat} {d : D} {v : V} (g : Gd F W ρ hp σ H) (r : Rep F.G W H d v) : Gd F W (ρ.set i (.v d)) hp (σ.set i (some v)) H where
  x0 := g.x0
  st := g.st
  env := {
    len := by rw [List.length_set, List.length_set]; exact g.env.len
    at_ := fun j s ov h1 h2 => by
      rcases set_some h1 with ⟨e1, e2, hl⟩ | ⟨n, h1⟩
      · subst e1; subst e2
        rcases set_some h2 with ⟨_, e3, _⟩ | ⟨n, _⟩
        · subst e3; exact ⟨v, rfl, r⟩
        · exact absurd rfl n
      · rw [List.getElem?_set_ne (Ne.symm n)] at h2
        exact g.env.at_ j s ov h1 h2
    ap := fun j k a h1 h2 => g.env.ap j k a (owns_set h1).2 (owns_set h2).2
    nw := fun j a h => g.env.nw j a (owns_set h).2 }
/-- a slot is stored a list or dict that nothing else holds -/
theorem Gd.setO {i : Nat} {d : D} {v : V} {Hs : Hp} (g : Gd F W ρ hp σ H) (hs : ∀ b, F.H0 b ≠ none → Hs b ≠ none) (ho : ∀ j b, Owns ρ σ j b → Hs b ≠ none) (r : RepN F.G Hs W H d v) : Gd F W (ρ.set i (.o d)) hp (σ.set i (some v)) H := by
  have sl : SlRep F.G W H (.o d) (some v) ∧ ∃ a, v = .ref a ∧ Hs a = none := by
    cases d with
    | lst ds => obtain ⟨a, vs, rfl, e, r, n0, nf, nm⟩ := r; exact ⟨⟨a, vs, rfl, e, r, nf, nm⟩, a, rfl, n0⟩
    | dic ds => obtain ⟨a, vs, rfl, e, r, n0, nf, nm⟩ := r; exact ⟨⟨a, vs, rfl, e, r, nf, nm⟩, a, rfl, n0⟩
    | dit ds => obtain ⟨a, vs, rfl, e, r, n0, nf, nm⟩ := r; exact ⟨⟨a, vs, rfl, e, r, nf, nm⟩, a, rfl, n0⟩
    | _ => exact r.elim
  obtain ⟨sl, a0, rfl, n0⟩ := sl
  have own : ∀ {j : Nat} {a : Addr}, Owns (ρ.set i (.o d)) (σ.set i (some (.ref a0))) j a → (j = i ∧ a = a0) ∨ (j ≠ i ∧ Owns ρ σ j a) := fun {j a} h => by
    obtain ⟨⟨e, h1⟩, h2⟩ := h
    rcases set_some h1 with ⟨e1, e2, _⟩ | ⟨n, h1⟩
    · subst e1
      rcases set_some h2 with ⟨_, e3, _⟩ | ⟨n, _⟩
      · exact .inl ⟨rfl, by simpa using e3⟩
      · exact absurd rfl n
    · rw [List.getElem?_set_ne (Ne.symm n)] at h2
      exact .inr ⟨n, ⟨e, h1⟩, h2⟩
  exact {
    x0 := g.x0
    st := g.st
    env := {
      len := by rw [List.length_set, List.length_set]; exact g.env.len
      at_ := fun j s ov h1 h2 => by
        rcases set_some h1 with ⟨e1, e2, hl⟩ | ⟨n, h1⟩
        · subst e1; subst e2
          rcases set_some h2 with ⟨_, e3, _⟩ | ⟨n, _⟩
          · subst e3; exact sl
          · exact absurd rfl n
        · rw [List.getElem?_set_ne (Ne.symm n)] at h2
          exact g.env.at_ j s ov h1 h2
      ap := fun j k a h1 h2 => by
        rcases own h1 with ⟨e1, e2⟩ | ⟨n1, o1⟩
        · rcases own h2 with ⟨e3, e4⟩ | ⟨n2, o2⟩
          · omega
          · subst e2; exact absurd n0 (ho k a o2)
        · rcases own h2 with ⟨e3, e4⟩ | ⟨n2, o2⟩
          · subst e4; exact absurd n0 (ho j a o1)
          · exact g.env.ap j k a o1 o2
      nw := fun j a h => by
        rcases own h with ⟨e1, e2⟩ | ⟨n1, o1⟩
        · subst e2
          exact Classical.byContradiction fun z => hs a z n0
        · exact g.env.nw j a o1 } }
theorem SlRep.ne {s : Sl} {d : D} {a : Addr} (h : SlRep G W H (.o d) (some (.ref a))) : H a ≠ none ∧ ¬ W.fz a ∧ ∀ n, W.m n ≠ some a := by
  cases d with
  | lst ds => obtain ⟨b, vs, e, q, r, f, m⟩ := h; cases e; exact ⟨by rw [q]; simp, f, m⟩
  | dic ds => obtain ⟨b, vs, e, q, r, f, m⟩ := h; cases e; exact ⟨by rw [q]; simp, f, m⟩
  | dit ds => obtain ⟨b, vs, e, q, r, f, m⟩ := h; cases e; exact ⟨by rw [q]; simp, f, m⟩
  | _ => exact h.elim
theorem Gd.own_ne (g : Gd F W ρ hp σ H) {j : Nat} {b : Addr} (h : Owns ρ σ j b) : H b ≠ none ∧ ¬ W.fz b ∧ ∀ n, W.m n ≠ some b := by
  obtain ⟨⟨d, h1⟩, h2⟩ := h
  exact SlRep.ne (s := .u) (g.env.at_ j _ _ h1 h2)
theorem Gd.own_at (g : Gd F W ρ hp σ H) : ∀ j b, Owns ρ σ j b → H b ≠ none := fun j b h => (g.own_ne h).1

/-! ### a slot's list is from now on a value -/
def sFz (i : Nat) (s : SM) : SM := fun ρ h => match ρ[i]? with
  | some (.o d) => s (ρ.set i (.v d)) h
  | some (.v _) => s ρ h
  | _ => .bad
theorem Gd.freeze {i : Nat} {d : D} (g : Gd F W ρ hp σ H) (e : ρ[i]? = some (.o d)) : ∃ W', Lk W H W' H ∧ Gd F W' (ρ.set i (.v d)) hp σ H := by
  obtain ⟨ov, e2, sl⟩ := g.slot e
  have main : ∀ a, ov = some (.ref a) → H a ≠ none → (∀ n, W.m n ≠ some a) → Rep F.G (W.fzA a) H d (.ref a) → ∃ W', Lk W H W' H ∧ Gd F W' (ρ.set i (.v d)) hp σ H := fun a ea ne nm rp => by
    subst ea
    have ow : Owns ρ σ i a := ⟨⟨d, e⟩, e2⟩
    refine ⟨W.fzA a, lk_freeze, ?_⟩
    have hσ : σ.set i (some (.ref a)) = σ := by
      apply List.ext_getElem?
      intro k
      by_cases z : i = k
      · subst z; rw [List.getElem?_set_self (List.getElem?_eq_some_iff.mp e2).1, e2]
      · rw [List.getElem?_set_ne z]
    have own : ∀ {j : Nat} {b : Addr}, Owns (ρ.set i (.v d)) σ j b → j ≠ i ∧ Owns ρ σ j b := fun {j b} h => by rw [← hσ] at h; have := owns_set h; rw [hσ] at h; exact this
    exact {
      x0 := ext_freeze g.x0 (g.env.nw i a ow)
      st := st_freeze g.st ne nm
      env := {
        len := by rw [List.length_set]; exact g.env.len
        at_ := fun j s ov h1 h2 => by
          rcases set_some h1 with ⟨e1, e3, hl⟩ | ⟨n, h1⟩
          · subst e1; subst e3
            rw [e2] at h2; cases h2
            exact ⟨_, rfl, rp⟩
          · have q := g.env.at_ j s ov h1 h2
            have nf : ∀ b, ov = some (.ref b) → (∃ d, s = .o d) → ¬ W.fz b → ¬ (W.fzA a).fz b := fun b eb hd hz z => z.elim hz fun z => by
              obtain ⟨d', hd⟩ := hd
              subst hd; subst eb; subst z
              exact n (g.env.ap j i b ⟨⟨d', h1⟩, h2⟩ ow)
            cases s with
            | u => trivial
            | v d => obtain ⟨v, ev, r⟩ := q; exact ⟨v, ev, r.ext lk_freeze⟩
            | o d =>
              cases d with
              | lst ds => obtain ⟨b, vs, eb, q, r, f, m⟩ := q; exact ⟨b, vs, eb, q, r.ext lk_freeze, nf b eb ⟨_, rfl⟩ f, m⟩
              | dic ds => obtain ⟨b, vs, eb, q, r, f, m⟩ := q; exact ⟨b, vs, eb, q, r.ext lk_freeze, nf b eb ⟨_, rfl⟩ f, m⟩
              | dit ds => obtain ⟨b, vs, eb, q, r, f, m⟩ := q; exact ⟨b, vs, eb, q, r.ext lk_freeze, nf b eb ⟨_, rfl⟩ f, m⟩
              | _ => exact q.elim
        ap := fun j k b h1 h2 => g.env.ap j k b (own h1).2 (own h2).2
        nw := fun j b h => g.env.nw j b (own h).2 } }
  cases d with
  | lst ds => obtain ⟨a, vs, ea, q, r, f, m⟩ := sl; exact main a ea (by rw [q]; simp) m ⟨a, vs, rfl, ⟨.inr rfl, q⟩, r.ext lk_freeze⟩
  | dic ds => obtain ⟨a, vs, ea, q, r, f, m⟩ := sl; exact main a ea (by rw [q]; simp) m ⟨a, vs, rfl, ⟨.inr rfl, q⟩, r.ext lk_freeze⟩
  | dit ds => obtain ⟨a, vs, ea, q, r, f, m⟩ := sl; exact main a ea (by rw [q]; simp) m ⟨a, vs, rfl, ⟨.inr rfl, q⟩, r.ext lk_freeze⟩
  | _ => exact sl.elim
theorem fz_imp {i : Nat} {sm : SM} {E : Ends} {H : Hp} {σ : L2.St} (h : TrS F wx (sFz i sm) E σ H) : TrS F wx sm E σ H := by
  obtain ⟨W, ρ, hp, g, h⟩ := h
  unfold sFz at h
  split at h
  · rename_i d e
    obtain ⟨W', l, g'⟩ := g.freeze e
    exact ⟨W', _, hp, g', FinS.lk l h⟩
  · exact ⟨W, ρ, hp, g, h⟩
  · exact h.elim
theorem s_fz {st : Stmt} {i : Nat} {sm : SM} (h : PS X st (TrS F wx sm)) : PS X st (TrS F wx (sFz i sm)) := PS.imp h fun _ _ _ => fz_imp
theorem ss_fz {st : List Stmt} {i : Nat} {sm : SM} (h : PSs X st (TrS F wx sm)) : PSs X st (TrS F wx (sFz i sm)) := PSs.imp h fun _ _ _ => fz_imp

/-! ### blocks -/
def sNx : SM := fun ρ h => .nx ρ h
def sSeq (a b : SM) : SM := fun ρ h => match a ρ h with
  | .nx ρ' h' => b ρ' h'
  | o => o
def sBk : SM := fun ρ h => .bk ρ h
def sCt : SM := fun ρ h => .ct ρ h
theorem ss_nil : PSs X [] (TrS F wx sNx) := PSs.imp pss_nil fun D σ H ⟨W, ρ, hp, g, h⟩ => h W σ H g (Lk.refl W H)
theorem seq_imp {a b : SM} {E : Ends} {σ : L2.St} {H : Hp} (h : TrS F wx (sSeq a b) E σ H) : tSeq (TrS F wx a) (TrS F wx b) E σ H := by
  obtain ⟨W, ρ, hp, g, h⟩ := h
  refine ⟨W, ρ, hp, g, ?_⟩
  unfold sSeq at h
  revert h
  cases a ρ hp with
  | nx ρ' hp' => exact fun h W' σ' H' g' l => ⟨W', ρ', hp', g', FinS.lk l h⟩
  | rt d hp' => exact fun h => h
  | bk ρ' hp' => exact fun h => h
  | ct ρ' hp' => exact fun h => h
  | ex c ρ' hp' => exact fun h => h
  | bad => exact fun h => h
theorem ss_cons {st : Stmt} {rest : List Stmt} {a b : SM} (h1 : PS X st (TrS F wx a)) (h2 : PSs X rest (TrS F wx b)) : PSs X (st :: rest) (TrS F wx (sSeq a b)) := PSs.imp (pss_cons h1 h2) fun _ _ _ => seq_imp
theorem ss_one {st : Stmt} {a : SM} (h1 : PS X st (TrS F wx a)) : PSs X [st] (TrS F wx a) := pss_one h1
theorem s_pass {pos : Pos} : PS X (.Pass pos) (TrS F wx sNx) := PS.imp ps_pass fun D σ H ⟨W, ρ, hp, g, h⟩ => h W σ H g (Lk.refl W H)
theorem s_break {pos : Pos} : PS X (.Break pos) (TrS F wx sBk) := PS.imp ps_break fun D σ H ⟨W, ρ, hp, g, h⟩ => h W σ H g (Lk.refl W H)
theorem s_cont {pos : Pos} : PS X (.Continue pos) (TrS F wx sCt) := PS.imp ps_continue fun D σ H ⟨W, ρ, hp, g, h⟩ => h W σ H g (Lk.refl W H)
def sDo (em : EM) : SM := fun ρ h => (em ρ h).toS ρ fun _ h1 => .nx ρ h1
theorem s_do {e : Expr} {em : EM} {pos : Pos} (he : PE X e (TrE F wx em)) (hs : swapsWith e none pos.line X.env = pure false := by rfl) : PS X (.Expr e pos) (TrS F wx (sDo em)) :=
  PS.imp (ps_expr he hs) fun D σ H ⟨W, ρ, hp, g, h⟩ => ⟨W, ρ, hp, g, FinS.bind g h fun d hp' W' v H' x g' r q => q W' σ H' g' (Lk.refl W' H')⟩
def sRet (em : EM) : SM := fun ρ h => (em ρ h).toS ρ fun d h1 => .rt d h1
theorem s_ret {e : Expr} {em : EM} {pos : Pos} (he : PE X e (TrE F wx em)) : PS X (.Return (some e) pos) (TrS F wx (sRet em)) :=
  PS.imp (ps_ret he) fun D σ H ⟨W, ρ, hp, g, h⟩ => ⟨W, ρ, hp, g, FinS.bind g h fun d hp' W' v H' x g' r q => q W' v H' g'.x0 g'.st r⟩
def sRetN : SM := fun ρ h => .rt .non h
theorem s_retN {pos : Pos} : PS X (.Return none pos) (TrS F wx sRetN) := PS.imp ps_retN fun D σ H ⟨W, ρ, hp, g, h⟩ => h W .non H g.x0 g.st rfl
def sIf (t : TM) (a b : SM) : SM := fun ρ h => (t ρ h).toS ρ fun c h1 => if c = true then a ρ h1 else b ρ h1
theorem s_if {c : Expr} {p q : List Stmt} {t : TM} {a b : SM} {pos : Pos} (hc : PT X c (TrT F wx t)) (ha : PSs X p (TrS F wx a)) (hb : PSs X q (TrS F wx b)) : PS X (.If c p q pos) (TrS F wx (sIf t a b)) :=
  PS.imp (ps_if hc ha hb) fun D σ H ⟨W, ρ, hp, g, h⟩ => ⟨W, ρ, hp, g, FinS.bind g h fun d hp' W' v H' x g' r q => by
    subst r
    cases d with
    | true => rw [if_pos rfl] at q ⊢; exact ⟨W', ρ, hp', g', q⟩
    | false => rw [if_neg Bool.false_ne_true] at q ⊢; exact ⟨W', ρ, hp', g', q⟩⟩
/-! ### name = value -/
def sSet (i : Nat) (em : EM) : SM := fun ρ h => (em ρ h).toS ρ fun d h1 => .nx (ρ.set i (.v d)) h1
def sSetN (i : Nat) (em : EM) : SM := fun ρ h => (em ρ h).toS ρ fun d h1 => .nx (ρ.set i (.o d)) h1
theorem set_imp {i : Nat} {em : EM} {E : Ends} {σ : L2.St} {H : Hp} (h : TrS F wx (sSet i em) E σ H) : tAsg (TrE F wx em) (gName i) E σ H := by
  obtain ⟨W, ρ, hp, g, h⟩ := h
  exact ⟨W, ρ, hp, g, FinS.bind g h fun d hp' W' v H' x g' r q => q W' _ H' (g'.set r) (Lk.refl W' H')⟩
theorem setN_imp {i : Nat} {em : EM} {E : Ends} {σ : L2.St} {H : Hp} (h : TrS F wx (sSetN i em) E σ H) : tAsg (TrN F wx em) (gName i) E σ H := by
  obtain ⟨W, ρ, hp, g, h⟩ := h
  exact ⟨W, ρ, hp, g, FinS.bind g h fun d hp' W' v H' x g' r q => q W' _ H' (g'.setO (fun b z => g.x0.t b z) g.own_at r) (Lk.refl W' H')⟩
theorem s_set {i : Nat} {x : Str} {e : Expr} {em : EM} {pos pos' : Pos} (hN : X.N.Nodup) (he : PE X e (TrE F wx em)) (hi : X.N[i]? = some x := by rfl) (hx : Loc X.env.scope x := by first | exact .inl rfl | exact .inr rfl) (hs : swapsWith e (some (.Name x pos')) pos.line X.env = pure false := by rfl)
    (hf : X.fn x = true ∨ X.env.scope.names.lookup x = some .local := by first | exact .inr rfl | exact .inl rfl) : PS X (.Assign [.Name x pos'] e pos) (TrS F wx (sSet i em)) := PS.imp (ps_set hN hi hx he hs hf) fun _ _ _ => set_imp
theorem s_setN {i : Nat} {x : Str} {e : Expr} {em : EM} {pos pos' : Pos} (hN : X.N.Nodup) (he : PE X e (TrN F wx em)) (hi : X.N[i]? = some x := by rfl) (hx : Loc X.env.scope x := by first | exact .inl rfl | exact .inr rfl) (hs : swapsWith e (some (.Name x pos')) pos.line X.env = pure false := by rfl)
    (hf : X.fn x = true ∨ X.env.scope.names.lookup x = some .local := by first | exact .inr rfl | exact .inl rfl) : PS X (.Assign [.Name x pos'] e pos) (TrS F wx (sSetN i em)) := PS.imp (ps_set hN hi hx he hs hf) fun _ _ _ => setN_imp
end
end Z

/-! Z9: what is written in place, exceptions -/
namespace Z
open PySem PySem.Spec PyProof.Rows L2

def ContRep (G : Gl) (W : Wd) (H : Hp) (a : Addr) : D → Prop
  | .lst ds => ∃ vs, H a = some (.lst vs) ∧ Reps G W H ds vs
  | .dic ds => ∃ vs, H a = some (.dK vs) ∧ RepK G W H ds vs
  | .dit ds => ∃ vs, H a = some (.dT vs) ∧ RepT G W H ds vs
  | _ => False
/-- what stands in slot i's own list or dict, or in the box there -/
def held (ρ : Rho) (h : Hc) (i : Nat) : D := match ρ[i]? with
  | some (.o d) => d
  | some (.v (.ref n)) => (match h[n]? with
    | some (.box d) => d
    | _ => .non)
  | _ => .non
/-- .. is written -/
def put (ρ : Rho) (h : Hc) (i : Nat) (d : D) (k : Rho → Hc → O) : O := match ρ[i]? with
  | some (.o _) => k (ρ.set i (.o d)) h
  | some (.v (.ref n)) => if d.nl then k ρ (h.set n (.box d)) else .bad
  | _ => .bad
section
variable {F : Fr} {X : Cx} {wx : WX} {σ : L2.St} {G : Gl} {W W' W2 : Wd} {H H' H2 : Hp} {hp hp' : Hc} {E : Ends} {ρ : Rho}
def contO : HO → Prop
  | .lst _ => True
  | .dK _ => True
  | .dT _ => True
  | _ => False
theorem contO_x {o : HO} (h : contO o) (φ : Heap → Prop) : o ≠ .ext φ := fun e => by rw [e] at h; exact h
theorem contO_ok {o : HO} (h : contO o) : noTbl o ∧ ∀ p q, o ≠ LamX.CodeO p q := ⟨fun ps e => by rw [e] at h; exact h, fun p q e => by rw [e] at h; exact h⟩
theorem ContRep.ok {a : Addr} {d : D} (h : ContRep G W H a d) : ∃ o, H a = some o ∧ contO o := by
  cases d with
  | lst ds => obtain ⟨vs, e, _⟩ := h; exact ⟨_, e, trivial⟩
  | dic ds => obtain ⟨vs, e, _⟩ := h; exact ⟨_, e, trivial⟩
  | dit ds => obtain ⟨vs, e, _⟩ := h; exact ⟨_, e, trivial⟩
  | _ => exact h.elim
theorem ContRep.no {a : Addr} {o' : HO} {d : D} (h : ContRep G W (upd H a o') a d) : noTbl o' := by
  obtain ⟨o, e, c⟩ := h.ok
  rw [upd_same] at e
  cases e
  exact (contO_ok c).1
theorem SlRep.out {s : Sl} {ov : Option V} {p : Addr} {o' : HO} (h : SlRep G W H s ov) (hf : ¬ W.fz p) (he : ∀ φ, H p ≠ some (.ext φ)) (ne : ∀ d, s = .o d → ov ≠ some (.ref p)) : SlRep G W (upd H p o') s ov := by
  have l := lk_out (H := H) (o' := o') hf he
  cases s with
  | u => trivial
  | v d => obtain ⟨v, e, r⟩ := h; exact ⟨v, e, r.ext l⟩
  | o d =>
    have ne2 := ne d rfl
    cases d with
    | lst ds => obtain ⟨a, vs, e, q, r, f, m⟩ := h; exact ⟨a, vs, e, by rw [upd_ne (fun z => ne2 (by rw [e, z]))]; exact q, r.ext l, f, m⟩
    | dic ds => obtain ⟨a, vs, e, q, r, f, m⟩ := h; exact ⟨a, vs, e, by rw [upd_ne (fun z => ne2 (by rw [e, z]))]; exact q, r.ext l, f, m⟩
    | dit ds => obtain ⟨a, vs, e, q, r, f, m⟩ := h; exact ⟨a, vs, e, by rw [upd_ne (fun z => ne2 (by rw [e, z]))]; exact q, r.ext l, f, m⟩
    | _ => exact h.elim
theorem ContRep.sl {a : Addr} {d : D} (h : ContRep G W H a d) (f : ¬ W.fz a) (m : ∀ n, W.m n ≠ some a) : SlRep G W H (.o d) (some (.ref a)) := by
  cases d with
  | lst ds => obtain ⟨vs, q, r⟩ := h; exact ⟨a, vs, rfl, q, r, f, m⟩
  | dic ds => obtain ⟨vs, q, r⟩ := h; exact ⟨a, vs, rfl, q, r, f, m⟩
  | dit ds => obtain ⟨vs, q, r⟩ := h; exact ⟨a, vs, rfl, q, r, f, m⟩
  | _ => exact h.elim
theorem ContRep.cell {a : Addr} {d : D} (n : d.nl = true) (h : ContRep G W H a d) : CellRep G W.nl H a (.box d) := by
  cases d with
  | lst ds => obtain ⟨vs, q, r⟩ := h; exact ⟨vs, q, r.nl (by simpa [D.nl] using n)⟩
  | dic ds => obtain ⟨vs, q, r⟩ := h; exact ⟨vs, q, r.nl (by simpa [D.nl] using n)⟩
  | dit ds => obtain ⟨vs, q, r⟩ := h; exact ⟨vs, q, r.nl (by simpa [D.nl] using n)⟩
  | _ => exact h.elim
theorem ContRep.ext (x : Lk W H W' H') {a : Addr} {d : D} (e : H' a = H a) (h : ContRep G W H a d) : ContRep G W' H' a d := by
  cases d with
  | lst ds => obtain ⟨vs, q, r⟩ := h; exact ⟨vs, e.trans q, r.ext x⟩
  | dic ds => obtain ⟨vs, q, r⟩ := h; exact ⟨vs, e.trans q, r.ext x⟩
  | dit ds => obtain ⟨vs, q, r⟩ := h; exact ⟨vs, e.trans q, r.ext x⟩
  | _ => exact h.elim
/-- slot i holds its own list at a, and so it stays when the list is written -/
theorem Gd.held {i : Nat} (g : Gd F W ρ hp σ H) (hd : Z.held ρ hp i ≠ .non) : ∃ a, σ[i]? = some (some (.ref a)) ∧ ContRep F.G W H a (Z.held ρ hp i) ∧ ¬ W.fz a ∧
    ∀ (d' : D) (o' : HO) (k : Rho → Hc → O) (D : Ends), ContRep F.G W (upd H a o') a d' → FinS F wx W H D (put ρ hp i d' k) → ∃ ρ' hp', Gd F W ρ' hp' σ (upd H a o') ∧ Lk W H W (upd H a o') ∧ FinS F wx W (upd H a o') D (k ρ' hp') := by
  unfold Z.held at hd ⊢
  cases e : ρ[i]? with
  | none => rw [e] at hd; exact absurd rfl hd
  | some s =>
    rw [e] at hd
    cases s with
    | u => exact absurd rfl hd
    | o d =>
      obtain ⟨ov, e2, sl⟩ := g.slot e
      have main : ∀ a, ov = some (.ref a) → ContRep F.G W H a d → ¬ W.fz a → (∀ n, W.m n ≠ some a) → ∃ a, σ[i]? = some (some (.ref a)) ∧ ContRep F.G W H a d ∧ ¬ W.fz a ∧
          ∀ (d' : D) (o' : HO) (k : Rho → Hc → O) (D : Ends), ContRep F.G W (upd H a o') a d' → FinS F wx W H D (put ρ hp i d' k) → ∃ ρ' hp', Gd F W ρ' hp' σ (upd H a o') ∧ Lk W H W (upd H a o') ∧ FinS F wx W (upd H a o') D (k ρ' hp') := fun a ea cr f m => by
        subst ea
        refine ⟨a, e2, cr, f, fun d' o' k D cr' q => ?_⟩
        obtain ⟨o, eo, oc⟩ := cr.ok
        have he : ∀ φ, H a ≠ some (.ext φ) := fun φ z => by rw [eo] at z; exact contO_x oc φ (Option.some.inj z)
        have l := lk_out (H := H) (o' := o') f he
        unfold put at q
        rw [e] at q
        have q : FinS F wx W H D (k (ρ.set i (.o d')) hp) := q
        have ow : Owns ρ σ i a := ⟨⟨d, e⟩, e2⟩
        have ha0 := g.env.nw i a ow
        have own : ∀ {j : Nat} {b : Addr}, Owns (ρ.set i (.o d')) σ j b → Owns ρ σ j b := fun {j b} h => by
          obtain ⟨⟨d2, h1⟩, h2⟩ := h
          rcases set_some h1 with ⟨e1, _, _⟩ | ⟨n, h1⟩
          · subst e1; exact ⟨⟨d, e⟩, h2⟩
          · exact ⟨⟨d2, h1⟩, h2⟩
        refine ⟨_, _, ⟨?_, ⟨?_, ?_, ?_, ?_⟩, ?_⟩, l, FinS.lk l q⟩
        · exact ⟨⟨g.x0.m, g.x0.f, fun b φ hb => by rw [upd_ne (ne_of_none hb ha0)]; exact g.x0.l b φ hb, fun b o hb q n => by rw [upd_ne (fun z => f (by rw [← z]; exact g.x0.f b hb))]; exact g.x0.fk b o hb q n⟩,
            fun b u hb hn ht => by rw [upd_ne (ne_of_none hb ha0)]; exact g.x0.k b u hb hn ht,
            fun b hb => by
              unfold upd
              split
              · simp
              · exact g.x0.t b hb, g.x0.nf, g.x0.nm⟩
        · rw [List.length_set]; exact g.env.len
        · intro j s ov h1 h2
          rcases set_some h1 with ⟨e1, e3, _⟩ | ⟨n, h1⟩
          · subst e1; subst e3
            rw [e2] at h2; cases h2
            exact cr'.sl f m
          · refine (g.env.at_ j s ov h1 h2).out f he fun d2 es ez => ?_
            subst es; subst ez
            exact n (g.env.ap j i a ⟨⟨d2, h1⟩, h2⟩ ow)
        · exact fun j k b h1 h2 => g.env.ap j k b (own h1) (own h2)
        · exact fun j b h => g.env.nw j b (own h)
        · exact st_out g.st eo f m (contO_ok oc).1 (fun p => (contO_ok oc).2 _ p) (contO_x oc) cr'.no
      cases d with
      | lst ds => obtain ⟨a, vs, ea, q, r, f, m⟩ := sl; exact main a ea ⟨vs, q, r⟩ f m
      | dic ds => obtain ⟨a, vs, ea, q, r, f, m⟩ := sl; exact main a ea ⟨vs, q, r⟩ f m
      | dit ds => obtain ⟨a, vs, ea, q, r, f, m⟩ := sl; exact main a ea ⟨vs, q, r⟩ f m
      | _ => exact sl.elim
    | v d =>
      cases d with
      | ref n =>
        obtain ⟨ov, e2, v, ev, a, eva, em⟩ := g.slot e
        subst ev; subst eva
        have hd : (match hp[n]? with | some (.box d) => d | _ => .non) ≠ D.non := hd
        show ∃ a, σ[i]? = some (some (.ref a)) ∧ ContRep F.G W H a (match hp[n]? with | some (.box d) => d | _ => .non) ∧ _
        cases ec : hp[n]? with
        | none => rw [ec] at hd; exact absurd rfl hd
        | some c =>
          rw [ec] at hd
          cases c with
          | ins _ _ => exact absurd rfl hd
          | box d =>
            obtain ⟨a', em', cr⟩ := g.st.cells n _ ec
            rw [em] at em'; cases em'
            have cr : ContRep F.G W.nl H a d := by
              cases d with
              | lst ds => exact cr
              | dic ds => exact cr
              | dit ds => exact cr
              | _ => exact cr.elim
            have f := g.st.nfz n a em
            refine ⟨a, e2, cr.ext nl_lk rfl, f, fun d' o' k D cr' q => ?_⟩
            unfold put at q
            rw [e] at q
            have q : FinS F wx W H D (if d'.nl then k ρ (hp.set n (.box d')) else .bad) := q
            split at q
            · rename_i hn
              obtain ⟨o, eo, oc⟩ := cr.ok
              have x := ext_set (o' := o') g.st em
              exact ⟨_, _, g.ext x (st_set g.st em eo (contO_ok oc).1 (fun p => (contO_ok oc).2 _ p) (cr'.cell hn) cr'.no), x.toLk, FinS.lk x.toLk q⟩
            · exact q.elim
      | _ => exact absurd rfl hd
/-! ### methods of a list that write -/
/-- what a writing method does: the new list, its value -/
abbrev WM := List D → List D → Option (List D × D)
def WmS (F : Fr) (b : WM) (r : V → List V → Hp → VK → Prop) : Prop :=
  ∀ (W : Wd) (H : Hp) (hp : Hc) (a : Addr) (ds : List D) (vs : List V) (xs : List D) (us : List V) (ds' : List D) (w : D) (Q : VK), St0 F.G W H hp → H a = some (.lst vs) → Reps F.G W H ds vs → Reps F.G W H xs us → b ds xs = some (ds', w) →
    (∀ vs' u, Reps F.G W H ds' vs' → Rep F.G W H w u → Q u (upd H a (.lst vs'))) → r (.ref a) us H Q
def mLst (ρ : Rho) (h : Hc) (i : Nat) (b : WM) (xs : List D) (k : D → Rho → Hc → O) : O := match held ρ h i with
  | .lst ds => (match b ds xs with
    | some (ds', w) => put ρ h i (.lst ds') (k w)
    | none => .bad)
  | _ => .bad
def isL : D → Bool
  | .lst _ => true
  | _ => false
def sWm (b : WM) (i : Nat) (am : AM) : SM := fun ρ h => if isL (held ρ h i) then (am ρ h).toS ρ fun xs h1 => mLst ρ h1 i b xs fun _ ρ h => .nx ρ h else .bad
/-- name j = x_i.pop(..) -/
def sWmSet (b : WM) (j i : Nat) (am : AM) : SM := fun ρ h => if isL (held ρ h i) then (am ρ h).toS ρ fun xs h1 => mLst ρ h1 i b xs fun w ρ h => .nx (ρ.set j (.v w)) h else .bad
theorem isL_ne {d : D} (h : isL d = true) : d ≠ .non := fun e => by rw [e] at h; cases h
theorem wm_core {b : WM} {r : V → List V → Hp → VK → Prop} {i : Nat} {xs : List D} {us : List V} {k : D → Rho → Hc → O} {Q : VK} (hs : WmS F b r) (g : Gd F W ρ hp σ H) (rx : Reps F.G W H xs us) {a : Addr} (ea : σ[i]? = some (some (.ref a))) (q : FinS F wx W H E (mLst ρ hp i b xs k))
    (nx : ∀ w u ρ' hp' H', Gd F W ρ' hp' σ H' → Rep F.G W H' w u → FinS F wx W H' E (k w ρ' hp') → Q u H') : r (.ref a) us H Q := by
  unfold mLst at q
  split at q
  · rename_i ds eh
    split at q
    · rename_i ds' w eb
      obtain ⟨a', ea', cr, nf, nxt⟩ := g.held (wx := wx) (by rw [eh]; intro z; cases z)
      rw [ea] at ea'; cases ea'
      rw [eh] at cr
      obtain ⟨vs, e, rv⟩ := cr
      refine hs W H hp a ds vs xs us ds' w Q g.st e rv rx eb fun vs' u rv' rw' => ?_
      have l := lk_out (H := H) (o' := .lst vs') nf fun φ z => by rw [e] at z; cases z
      obtain ⟨ρ', hp', g', l', f'⟩ := nxt (.lst ds') (.lst vs') (k w) E ⟨vs', upd_same, rv'.ext l⟩ q
      exact nx w u ρ' hp' _ g' (rw'.ext l) f'
    · exact q.elim
  · exact q.elim
theorem held_ty {i : Nat} (g : Gd F W ρ hp σ H) (h : isL (Z.held ρ hp i) = true) : ∃ a, σ[i]? = some (some (.ref a)) ∧ ∀ K, tyV K "list" (.ref a) H := by
  obtain ⟨a, ea, cr, nf, nxt⟩ := g.held (wx := fun _ _ _ _ => True) (isL_ne h)
  cases eh : Z.held ρ hp i with
  | lst ds =>
    rw [eh] at cr
    obtain ⟨vs, e, _⟩ := cr
    exact ⟨a, ea, fun K => .inl ⟨rfl, vs, SqL.of e⟩⟩
  | _ => rw [eh] at h; cases h
theorem wm_te {b : WM} {r : V → List V → Hp → VK → Prop} {i : Nat} {am : AM} {Q : VK} {k : D → Rho → Hc → O} (hs : WmS F b r) (g : Gd F W ρ hp σ H) (h : FinS F wx W H E (if isL (Z.held ρ hp i) then (am ρ hp).toS ρ fun xs h1 => mLst ρ h1 i b xs k else .bad))
    (nx : ∀ W w u ρ' hp' H', Gd F W ρ' hp' σ H' → Rep F.G W H' w u → FinS F wx W H' E (k w ρ' hp') → Q u H') : tBM X.K "list" r (tVar i) (TrA F wx am) σ H Q := by
  split at h
  · rename_i hl
    obtain ⟨a, ea, ty⟩ := held_ty g hl
    refine ⟨_, ea, ty _, W, ρ, hp, g, FinS.bind g h fun xs hp1 W1 us H1 x1 g1 r1 q1 => ?_⟩
    exact wm_core hs g1 r1 ea q1 (nx W1)
  · exact h.elim
section
variable {b : WM} {r : V → List V → Hp → VK → Prop} {id : String} {name x y : Str} {i j : Nat} {am : AM} {e : Expr} {es : List Expr} {p p' apos cpos pos : Pos}
theorem pe_wm {t : TA} (slot : Slot "list" name id) (hty : typeOf (.builtin id) = pure (.type "method_descriptor")) (hm : MtR X id r) (ha : PA X (e :: es) t)
    (hN : X.N[i]? = some x := by rfl) (hv : Vis X.env.scope x := by first | exact Or.inl rfl | exact Or.inr (Or.inl rfl) | exact Or.inr (Or.inr rfl)) (hd : (x == ("__debug__" : Str)) = false := by decide) (hcd : (x == ("__classdict__" : Str)) = false := by decide)
    (hbase : attributeBase (.Name x p) name X.env (eval (.Name x p) X.env) = eval (.Name x p) X.env := by rfl)
    (hfew : ((backTo cpos (starEach (e :: es) X.env)).all (fun x => !x.1) && (backToKw cpos (keywordEach [] X.env)).all (fun x => x.1.isSome)
      && decide ((e :: es).length + ([] : List Keyword).length + (if ([] : List Keyword).isEmpty then 0 else 1) < 30)) = true := by rfl)
    (hline : (apos.endLine == cpos.line) = true := by rfl) (hst : starEach (e :: es) X.env = (false, eval e X.env) :: starEach es X.env := by rfl) (hplain : (backTo cpos (starEach es X.env)).any (·.1) = false := by rfl) :
    PE X (.Call (.Attribute (.Name x p) name apos) (e :: es) [] cpos) (tBM X.K "list" r (tVar i) t) := pe_bm F.plainAttrs_list slot hty hm (pe_var hN hv hd hcd) ha hbase hfew hline hst hplain
theorem wm_do {te : Expr} (hs : WmS F b r) (h : PE X te (tBM X.K "list" r (tVar i) (TrA F wx am))) (hsw : swapsWith te none pos.line X.env = pure false := by rfl) : PS X (.Expr te pos) (TrS F wx (sWm b i am)) :=
  PS.imp (ps_expr h hsw) fun D σ H ⟨W, ρ, hp, g, h⟩ => wm_te hs g h fun W w u ρ' hp' H' g' r q => q W σ H' g' (Lk.refl W H')
theorem wm_set {te : Expr} (hs : WmS F b r) (hN : X.N.Nodup) (h : PE X te (tBM X.K "list" r (tVar i) (TrA F wx am))) (hj : X.N[j]? = some y := by rfl) (hx : Loc X.env.scope y := by first | exact .inl rfl | exact .inr rfl) (hsw : swapsWith te (some (.Name y p')) pos.line X.env = pure false := by rfl)
    (hf : X.fn y = true ∨ X.env.scope.names.lookup y = some .local := by first | exact .inr rfl | exact .inl rfl) : PS X (.Assign [.Name y p'] te pos) (TrS F wx (sWmSet b j i am)) :=
  PS.imp (ps_set hN hj hx h hsw hf) fun D σ H ⟨W, ρ, hp, g, h⟩ => wm_te hs g h fun W w u ρ' hp' H' g' r q => q W _ H' (g'.set r) (Lk.refl W H')
end
theorem reps1 {d : D} {vs : List V} (r : Reps G W H [d] vs) : ∃ v, vs = [v] ∧ Rep G W H d v := by
  obtain ⟨v, r, e, h, t⟩ := r
  cases t
  exact ⟨v, e, h⟩
theorem Reps.one {d : D} {v : V} (h : Rep G W H d v) : Reps G W H [d] [v] := ⟨v, [], rfl, h, rfl⟩
theorem reps2 {d d2 : D} {vs : List V} (r : Reps G W H [d, d2] vs) : ∃ v v2, vs = [v, v2] ∧ Rep G W H d v ∧ Rep G W H d2 v2 := by
  obtain ⟨v, r, e, h, v2, r2, e2, h2, t⟩ := r
  cases t
  subst e2
  exact ⟨v, v2, e, h, h2⟩
def wAppend : WM := fun ds xs => match xs with
  | [x] => if ds.length < 16777216 then some (ds ++ [x], .non) else none
  | _ => none
theorem s_append : WmS F wAppend rAppend := fun W H hp a ds vs xs us ds' w Q s e rv rx eb q => by
  unfold wAppend at eb
  split at eb
  · split at eb
    · rename_i hl
      cases eb
      obtain ⟨u, rfl, ru⟩ := reps1 rx
      exact ⟨a, vs, u, rfl, rfl, e, by rw [← rv.length]; exact lim_lt hl, q _ _ (rv.append (Reps.one ru)) rfl⟩
    · cases eb
  · cases eb
def wInsert : WM := fun ds xs => match xs with
  | [.int i, x] => if ds.length < 16777216 ∧ 0 ≤ i ∧ i < 2 ^ 63 then some (ds.take i.toNat ++ [x] ++ ds.drop i.toNat, .non) else none
  | _ => none
def rInsert : V → List V → Hp → VK → Prop := fun x vs H Q => ∃ (l : Addr) (xs : List V) (i : Int) (y : V), x = .ref l ∧ vs = [.int i, y] ∧ H l = some (.lst xs) ∧ xs.length < sizeLine ∧ 0 ≤ i ∧ i < 2 ^ 63 ∧
    Q .non (upd H l (.lst (xs.take i.toNat ++ [y] ++ xs.drop i.toNat)))
theorem s_insert : WmS F wInsert rInsert := fun W H hp a ds vs xs us ds' w Q s e rv rx eb q => by
  unfold wInsert at eb
  split at eb
  · split at eb
    · rename_i hl
      cases eb
      obtain ⟨u, u2, rfl, ru, ru2⟩ := reps2 rx
      cases ru
      exact ⟨a, vs, _, u2, rfl, rfl, e, by rw [← rv.length]; exact lim_lt hl.1, hl.2.1, hl.2.2, q _ _ (((rv.take _).append (Reps.one ru2)).append (rv.drop _)) rfl⟩
    · cases eb
  · cases eb
theorem Reps.erase : ∀ {ds : List D} {vs : List V} (n : Nat), Reps G W H ds vs → Reps G W H (ds.eraseIdx n) (vs.eraseIdx n)
  | [], _, _, h => by cases h; exact rfl
  | d :: ds, _, 0, ⟨v, r, e, h, t⟩ => by rw [e]; exact t
  | d :: ds, _, n + 1, ⟨v, r, e, h, t⟩ => by rw [e]; exact ⟨v, _, rfl, h, Reps.erase n t⟩
def wPopAt : WM := fun ds xs => match xs with
  | [.int i] => if -(2 ^ 63) ≤ i ∧ i < 2 ^ 63 then (match seqIndex? i ds.length with
    | some k => (match ds[k]? with
      | some d => some (ds.eraseIdx k, d)
      | none => none)
    | none => none) else none
  | _ => none
theorem s_popAt : WmS F wPopAt rPopAt := fun W H hp a ds vs xs us ds' w Q s e rv rx eb q => by
  unfold wPopAt at eb
  split at eb
  · split at eb
    · rename_i hl
      split at eb
      · rename_i k ek
        split at eb
        · rename_i d ed
          cases eb
          obtain ⟨u, rfl, ru⟩ := reps1 rx
          cases ru
          obtain ⟨y, hy, ry⟩ := rv.get ed
          exact ⟨a, vs, _, k, y, rfl, rfl, e, hl.1, hl.2, by rw [← rv.length]; exact ek, hy, q _ _ (rv.erase k) ry⟩
        · cases eb
      · cases eb
    · cases eb
  · cases eb
end
end Z

/-! Z10: targets, loops, comprehensions -/
namespace Z
open PySem PySem.Spec PyProof.Rows L2

/-! ### targets: names and tuples (lists) of targets -/
inductive Tg where
  | n (i : Nat)
  | t (ts : List Tg)
  | l (ts : List Tg)
  deriving Inhabited
mutual
def bindD : Tg → D → Rho → Option Rho
  | .n i, d, ρ => some (ρ.set i (.v d))
  | .t ts, .tup ds, ρ => if ts.length = ds.length then bindDs ts ds ρ else none
  | .l ts, .lst ds, ρ => if ts.length = ds.length then bindDs ts ds ρ else none
  | _, _, _ => none
def bindDs : List Tg → List D → Rho → Option Rho
  | [], [], ρ => some ρ
  | t :: ts, d :: ds, ρ => (match bindD t d ρ with
    | some ρ' => bindDs ts ds ρ'
    | none => none)
  | _, _, _ => none
end
mutual
def Tg.inn (vs : List Nat) : Tg → Bool
  | .n i => vs.contains i
  | .t ts => inns vs ts
  | .l ts => inns vs ts
def inns (vs : List Nat) : List Tg → Bool
  | [] => true
  | t :: ts => t.inn vs && inns vs ts
end
section
variable {F : Fr} {X : Cx} {wx : WX} {σ : L2.St} {G : Gl} {W W' W2 : Wd} {H H' H2 : Hp} {hp hp' : Hc} {E : Ends} {ρ : Rho}
/-- σ' is σ but for slots that t binds -/
def Only (p : List Nat → Bool) (σ σ' : L2.St) : Prop := ∀ vs, p vs = true → wipe σ' vs = wipe σ vs
def TrG (F : Fr) (t : Tg) : TG := fun v σ H Q => ∃ W ρ hp d ρ', Gd F W ρ hp σ H ∧ Rep F.G W H d v ∧ bindD t d ρ = some ρ' ∧ ∀ σ', Gd F W ρ' hp σ' H → Only (fun vs => t.inn vs) σ σ' → Q σ' H
def TrGs (F : Fr) (ts : List Tg) : TGs := fun vs σ H Q => ∃ W ρ hp ds ρ', Gd F W ρ hp σ H ∧ Reps F.G W H ds vs ∧ bindDs ts ds ρ = some ρ' ∧ ∀ σ', Gd F W ρ' hp σ' H → Only (fun vs => inns vs ts) σ σ' → Q σ' H
theorem PG.imp {e : Expr} {t t' : TG} (h : PG X e t) (k : ∀ v σ H Q, t' v σ H Q → t v σ H Q) : PG X e t' := ⟨fun p s σ H v u Q I r q => h.run p s σ H v u Q I r (k v σ H Q q)⟩
theorem PGs.imp {e : List Expr} {t t' : TGs} (h : PGs X e t) (k : ∀ v σ H Q, t' v σ H Q → t v σ H Q) : PGs X e t' := ⟨fun p s σ H v u Q I r q => h.run p s σ H v u Q I r (k v σ H Q q)⟩
theorem wipe_set {i : Nat} {x : Option V} : ∀ {vs : List Nat} {σ : L2.St}, vs.contains i = true → wipe (σ.set i x) vs = wipe σ vs
  | [], σ, h => by simp at h
  | v :: vs, σ, h => by
    unfold wipe
    by_cases e : v = i
    · subst e
      have q : ∀ (ws : List Nat) (σ : L2.St), (wipe (σ.set v x) ws).set v none = (wipe σ ws).set v none := by
        intro ws
        induction ws with
        | nil => intro σ; show (σ.set v x).set v none = σ.set v none; rw [List.set_set]
        | cons w ws ih =>
          intro σ
          unfold wipe
          by_cases e : w = v
          · subst e; rw [List.set_set, List.set_set]; exact ih σ
          · rw [List.set_comm _ _ e, List.set_comm _ _ e, ih σ]
      exact q vs σ
    · rw [wipe_set (by
        rw [List.contains_cons] at h
        rcases Bool.or_eq_true _ _ |>.mp h with z | z
        · exact absurd (by simpa using z : i = v).symm e
        · exact z)]
theorem g_name {i : Nat} {x : Str} {pos : Pos} (hN : X.N.Nodup) (hi : X.N[i]? = some x := by rfl) (hx : Loc X.env.scope x := by first | exact .inl rfl | exact .inr rfl) (hf : X.fn x = true ∨ X.env.scope.names.lookup x = some .local := by first | exact .inr rfl | exact .inl rfl) : PG X (.Name x pos) (TrG F (.n i)) :=
  PG.imp (pg_name hN hi hx hf) fun v σ H Q ⟨W, ρ, hp, d, ρ', g, r, e, k⟩ => by
    have e : some (ρ.set i (.v d)) = some ρ' := e
    cases e
    exact k _ (g.set r) fun vs h => wipe_set h
theorem gs_nil : PGs X [] (TrGs F []) := PGs.imp pgs_nil fun v σ H Q ⟨W, ρ, hp, ds, ρ', g, r, e, k⟩ => by
  cases ds with
  | nil => cases r; cases e; exact ⟨rfl, k σ g fun vs h => rfl⟩
  | cons d ds => simp [bindDs] at e
theorem gs_cons {e : Expr} {es : List Expr} {t : Tg} {ts : List Tg} (h1 : PG X e (TrG F t)) (h2 : PGs X es (TrGs F ts)) (hs : (assignEach (e :: es) X.env).map (·.2) = assign e X.env :: (assignEach es X.env).map (·.2) := by rfl) : PGs X (e :: es) (TrGs F (t :: ts)) :=
  PGs.imp (pgs_cons h1 h2 hs) fun v σ H Q ⟨W, ρ, hp, ds, ρ', g, r, e, k⟩ => by
    cases ds with
    | nil => simp [bindDs] at e
    | cons d ds =>
      obtain ⟨v1, vr, rfl, r1, r2⟩ := r
      simp only [bindDs] at e
      split at e
      · rename_i ρ1 e1
        refine ⟨v1, vr, rfl, W, ρ, hp, d, ρ1, g, r1, e1, fun σ1 g1 o1 => ⟨W, ρ1, hp, ds, ρ', g1, r2, e, fun σ2 g2 o2 => k σ2 g2 fun vs hv => ?_⟩⟩
        simp only [inns, Bool.and_eq_true] at hv
        exact (o2 vs hv.2).trans (o1 vs hv.1)
      · cases e
theorem g_tup {es : List Expr} {k : Nat} {ts : List Tg} {n : Nat} {pos : Pos} (hK : F.G.K = X.K) (hc : X.calm = true) (h : PGs X es (TrGs F ts)) (hn : (assignEach es X.env).length = n := by rfl) (hl : ts.length = n := by rfl) (hst : (assignEach es X.env).findIdx? (·.1) = none := by rfl) : PG X (.Tuple es k pos) (TrG F (.t ts)) :=
  PG.imp (pg_tup hc h hn hst) fun v σ H Q ⟨W, ρ, hp, d, ρ', g, r, e, k⟩ => by
    cases d with
    | tup ds =>
      obtain ⟨a, vs, rfl, t, rs⟩ := r
      simp only [bindD] at e
      split at e
      · rename_i hl2
        exact ⟨a, vs, rfl, hK ▸ t.sq, by rw [← rs.length, ← hl2, hl], W, ρ, hp, ds, ρ', g, rs, e, k⟩
      · cases e
    | _ => simp [bindD] at e
theorem g_lst {es : List Expr} {k : Nat} {ts : List Tg} {n : Nat} {pos : Pos} (hc : X.calm = true) (h : PGs X es (TrGs F ts)) (hn : (assignEach es X.env).length = n := by rfl) (hl : ts.length = n := by rfl) (hst : (assignEach es X.env).findIdx? (·.1) = none := by rfl) : PG X (.Tuple es k pos) (TrG F (.l ts)) :=
  PG.imp (pg_lst hc h hn hst) fun v σ H Q ⟨W, ρ, hp, d, ρ', g, r, e, k⟩ => by
    cases d with
    | lst ds =>
      obtain ⟨a, vs, rfl, t, rs⟩ := r
      simp only [bindD] at e
      split at e
      · rename_i hl2
        exact ⟨a, vs, rfl, SqL.of t.2, by rw [← rs.length, ← hl2, hl], W, ρ, hp, ds, ρ', g, rs, e, k⟩
      · cases e
    | _ => simp [bindD] at e
/-- targets = value -/
def sTg (t : Tg) (em : EM) : SM := fun ρ h => (em ρ h).toS ρ fun d h1 => match bindD t d ρ with
  | some ρ' => .nx ρ' h1
  | none => .bad
theorem s_tg {tg e : Expr} {t : Tg} {em : EM} {pos : Pos} (he : PE X e (TrE F wx em)) (hg : PG X tg (TrG F t)) (hs : swapsWithSole [tg] e pos.line X.env = pure false := by rfl) (hw : swappedStores [tg] e X.env = pure none := by rfl)
    (h1 : (assignEach [tg] X.env).map (·.2) = [assign tg X.env] := by rfl) : PS X (.Assign [tg] e pos) (TrS F wx (sTg t em)) :=
  PS.imp (ps_asg he hg hs hw h1) fun D σ H ⟨W, ρ, hp, g, h⟩ => ⟨W, ρ, hp, g, FinS.bind g h fun d hp' W' v H' x g' r q => by
    split at q
    · rename_i ρ' e
      exact ⟨W', ρ, hp', d, ρ', g', r, e, fun σ' g2 _ => q W' σ' H' g2 (Lk.refl W' H')⟩
    · exact q.elim⟩
/-! ### a, b = x, y -/
/-- what a slot is to hold: a value, an own list -/
abbrev VM := Rho → Hc → R Sl
def vE (em : EM) : VM := fun ρ h => (em ρ h).bind fun d h1 => .ok (.v d) h1
def vN (em : EM) : VM := fun ρ h => (em ρ h).bind fun d h1 => .ok (.o d) h1
def RepS (G : Gl) (Hs : Hp) (W : Wd) (H : Hp) : Sl → V → Prop
  | .v d, v => Rep G W H d v
  | .o d, v => RepN G Hs W H d v
  | .u, _ => False
def TrV (F : Fr) (wx : WX) (vm : VM) : TE := fun σ H Q => ∃ W ρ hp, Gd F W ρ hp σ H ∧ Fin F wx σ (RepS F.G H) W H Q (vm ρ hp)
theorem v_e {e : Expr} {em : EM} (h : PE X e (TrE F wx em)) : PE X e (TrV F wx (vE em)) := PE.imp h fun σ H Q ⟨W, ρ, hp, g, q⟩ => ⟨W, ρ, hp, g, Fin.bindN q fun d hp' W' v H' x s r q => q W' v H' x s r⟩
theorem v_n {e : Expr} {em : EM} (h : PE X e (TrN F wx em)) : PE X e (TrV F wx (vN em)) := PE.imp h fun σ H Q ⟨W, ρ, hp, g, q⟩ => ⟨W, ρ, hp, g, Fin.bindN q fun d hp' W' v H' x s r q => q W' v H' x s r⟩
theorem RepN.ext {Hs : Hp} (x : Ext W H W' H') {d : D} {v : V} (h : RepN G Hs W H d v) : RepN G Hs W' H' d v := by
  have nn : ∀ (a : Addr) (o : HO), H a = some o → ¬ W.fz a → (∀ n, W.m n ≠ some a) → ¬ W'.fz a ∧ ∀ n, W'.m n ≠ some a := fun a o e f m =>
    ⟨fun z => (x.nf a z).elim f fun q => (by rw [e] at q; cases q), fun n z => (x.nm n a z).elim (m n) fun q => (by rw [e] at q; cases q)⟩
  cases d with
  | lst ds => obtain ⟨a, vs, e, q, r, n0, f, m⟩ := h; exact ⟨a, vs, e, x.k a _ q m (fun ps z => by cases z), r.ext x.toLk, n0, nn a _ q f m⟩
  | dic ds => obtain ⟨a, vs, e, q, r, n0, f, m⟩ := h; exact ⟨a, vs, e, x.k a _ q m (fun ps z => by cases z), r.ext x.toLk, n0, nn a _ q f m⟩
  | dit ds => obtain ⟨a, vs, e, q, r, n0, f, m⟩ := h; exact ⟨a, vs, e, x.k a _ q m (fun ps z => by cases z), r.ext x.toLk, n0, nn a _ q f m⟩
  | _ => exact h.elim
theorem RepS.ext {Hs : Hp} (x : Ext W H W' H') {s : Sl} {v : V} (h : RepS G Hs W H s v) : RepS G Hs W' H' s v := by
  cases s with
  | v d => exact Rep.ext x.toLk h
  | o d => exact RepN.ext x h
  | u => exact h.elim
theorem RepN.new {Hs : Hp} {d : D} {v : V} (h : RepN G Hs W H d v) : ∃ a, v = .ref a ∧ Hs a = none ∧ H a ≠ none := by
  cases d with
  | lst ds => obtain ⟨a, vs, e, q, r, n0, f, m⟩ := h; exact ⟨a, e, n0, by rw [q]; simp⟩
  | dic ds => obtain ⟨a, vs, e, q, r, n0, f, m⟩ := h; exact ⟨a, e, n0, by rw [q]; simp⟩
  | dit ds => obtain ⟨a, vs, e, q, r, n0, f, m⟩ := h; exact ⟨a, e, n0, by rw [q]; simp⟩
  | _ => exact h.elim
/-- the second own thing is another than those of the slots -/
theorem Gd.setO2 {i : Nat} {d : D} {v : V} {Hs : Hp} (g : Gd F W ρ hp σ H) (hs : ∀ b, F.H0 b ≠ none → Hs b ≠ none) (ho : ∀ j b, Owns ρ σ j b → v ≠ .ref b) (r : RepN F.G Hs W H d v) : Gd F W (ρ.set i (.o d)) hp (σ.set i (some v)) H := by
  obtain ⟨a, ev, n0, hne⟩ := r.new
  -- the heap at which all but a are
  refine g.setO (Hs := fun b => if b = a then none else H b) (fun b z => ?_) (fun j b o => ?_) ?_
  · show (if b = a then none else H b) ≠ none
    rw [if_neg (fun e => hs b z (by rw [e]; exact n0))]
    exact g.x0.t b z
  · show (if b = a then none else H b) ≠ none
    rw [if_neg (fun e => ho j b o (by rw [ev, e]))]
    exact g.own_at j b o
  · cases d with
    | lst ds => obtain ⟨b, vs, e, q, r, n0, f, m⟩ := r; rw [ev] at e; cases e; exact ⟨a, vs, ev, q, r, if_pos rfl, f, m⟩
    | dic ds => obtain ⟨b, vs, e, q, r, n0, f, m⟩ := r; rw [ev] at e; cases e; exact ⟨a, vs, ev, q, r, if_pos rfl, f, m⟩
    | dit ds => obtain ⟨b, vs, e, q, r, n0, f, m⟩ := r; rw [ev] at e; cases e; exact ⟨a, vs, ev, q, r, if_pos rfl, f, m⟩
    | _ => exact r.elim
def sPar (i j : Nat) (a b : VM) : SM := fun ρ h => (a ρ h).toS ρ fun x h1 => (b ρ h1).toS ρ fun y h2 => .nx ((ρ.set i x).set j y) h2
theorem par_imp {i j : Nat} {va vb : VM} {D : Ends} {σ : L2.St} {H : Hp} (hij : i ≠ j) (h : TrS F wx (sPar i j va vb) D σ H) : tPar i j (tCons (TrV F wx va) (tCons (TrV F wx vb) tNil)) D σ H := by
  obtain ⟨W, ρ, hp, g, h⟩ := h
  refine ⟨W, ρ, hp, g, FinS.bind g h fun x hp1 W1 v H1 x1 g1 r1 h1 => ⟨W1, ρ, hp1, g1, FinS.bind g1 h1 fun y hp2 W2 u H2 x2 g2 r2 h2 => ⟨v, u, rfl, ?_⟩⟩⟩
  have r1' := r1.ext x2
  have own0 : ∀ j b, Owns ρ σ j b → H b ≠ none := g.own_at
  have gx : Gd F W2 (ρ.set i x) hp2 (σ.set i (some v)) H2 := by
    cases x with
    | v d => exact g2.set r1'
    | o d => exact g2.setO (Hs := H) (fun b z => g.x0.t b z) own0 r1'
    | u => exact r1'.elim
  refine h2 W2 _ H2 ?_ (Lk.refl W2 H2)
  cases y with
  | v d => exact gx.set r2
  | o d =>
    refine gx.setO2 (Hs := H1) (fun b z => g1.x0.t b z) (fun k b o e => ?_) r2
    obtain ⟨a, ea, n1, _⟩ := RepN.new r2
    rw [ea] at e
    cases e
    obtain ⟨⟨d', h3⟩, h4⟩ := o
    rcases set_some h3 with ⟨e1, e2, _⟩ | ⟨n, h3⟩
    · subst e1
      rcases set_some h4 with ⟨_, e5, _⟩ | ⟨n, _⟩
      · cases e5
        subst e2
        obtain ⟨a', ea', _, ne⟩ := RepN.new (W := W1) (H := H1) r1
        cases ea'
        exact ne n1
      · exact absurd rfl n
    · rw [List.getElem?_set_ne (Ne.symm n)] at h4
      exact g1.own_at k _ ⟨⟨d', h3⟩, h4⟩ n1
  | u => exact r2.elim
theorem s_par {i j : Nat} {x y : Str} {a b : Expr} {va vb : VM} {px py pt pos : Pos} {kt k2 pt2} (hc : X.calm = true) (hN : X.N.Nodup) (ha : PE X a (TrV F wx va)) (hb : PE X b (TrV F wx vb)) (hi : X.N[i]? = some x := by rfl) (hj : X.N[j]? = some y := by rfl) (hij : i ≠ j := by decide)
    (hx : X.env.scope.names.lookup x = some .local := by rfl) (hy : X.env.scope.names.lookup y = some .local := by rfl)
    (hw : swappedStores [.Tuple [.Name x px, .Name y py] kt pt] (.Tuple [a, b] k2 pt2) X.env = pure (some [x, y]) := by rfl)
    (hs : swapsWithSole [.Tuple [.Name x px, .Name y py] kt pt] (.Tuple [a, b] k2 pt2) pos.line X.env = pure false := by rfl)
    (h2 : starEach [a, b] X.env = (false, eval a X.env) :: starEach [b] X.env := by rfl) (h3 : starEach [b] X.env = (false, eval b X.env) :: starEach [] X.env := by rfl) : PS X (.Assign [.Tuple [.Name x px, .Name y py] kt pt] (.Tuple [a, b] k2 pt2) pos) (TrS F wx (sPar i j va vb)) :=
  PS.imp (ps_par hc hN hi hj hij hx hy (pa_cons ha (pa_cons hb pa_nil h3) h2) hw hs) fun D σ H h => par_imp hij h
/-! ### iterables -/
/-- the iterator hands out ds, whatever goes on around it -/
def ItOk (G : Gl) (W : Wd) (H : Hp) (ds : List D) (J : It) : Prop := ∀ (W' : Wd) (H' : Hp), Lk W H W' H' →
  (∀ i d, ds[i]? = some d → J.go i H' ∧ ∀ x H2, J.yld i H' x H2 → ∃ W2, Ext W' H' W2 H2 ∧ (∀ hp, St0 G W' H' hp → St0 G W2 H2 hp) ∧ Rep G W2 H2 d x) ∧ ∀ i, ds.length ≤ i → J.stop i H'
abbrev IM := Rho → Hc → R (List D)
def TrI (F : Fr) (wx : WX) (im : IM) : TI := fun σ H R => ∃ W ρ hp, Gd F W ρ hp σ H ∧ Fin F wx σ (ItOk F.G) W H R (im ρ hp)
theorem PI.imp {tg e : Expr} {t t' : TI} (h : PI X tg e t) (k : ∀ σ H R, t' σ H R → t σ H R) : PI X tg e t' := ⟨fun p s σ H R I q => h.run p s σ H R I (k σ H R q)⟩
theorem PI.or {tg e : Expr} {t t' : TI} (h : PI X tg e t) (h' : PI X tg e t') : PI X tg e (fun σ H R => t σ H R ∨ t' σ H R) := ⟨fun p s σ H R I q => q.elim (h.run p s σ H R I) (h'.run p s σ H R I)⟩
/-- what a value hands out -/
def itemsD : D → Option (List D)
  | .lst ds => some ds
  | .tup ds => some ds
  | .scr ds => some ds
  | .str s => some (s.map fun c => .str [c])
  | _ => none
def iOf (em : EM) : IM := fun ρ h => (em ρ h).bind fun d h1 => match itemsD d with
  | some ds => .ok ds h1
  | none => .bad
theorem SqL.fz {K : PySem.W.Frag} {a : Addr} {vs : List V} (f : ScrAt G W H a vs) (x : Lk W H W' H') : SqL G.K H' a vs := by
  rcases f with ⟨f, h | ⟨o, h⟩⟩ | h
  · exact SqL.of (x.fk a _ f h fun ps z => by cases z)
  · exact .inl (.inr ⟨o, x.fk a _ f h fun ps z => by cases z⟩)
  · exact .inr h
theorem it_list {a : Addr} {ds : List D} {vs : List V} (hs : ∀ W' H', Lk W H W' H' → SqL G.K H' a vs) (r : Reps G W H ds vs) : ItOk G W H ds (Itl G.K a) := fun W' H' x =>
  ⟨fun i d e => by
    obtain ⟨v, e2, rv⟩ := r.get e
    refine ⟨⟨vs, v, hs W' H' x, e2⟩, fun y H2 ⟨eH, q⟩ => ?_⟩
    subst eH
    have := q vs (hs W' H2 x)
    rw [e2] at this; cases this
    exact ⟨W', Ext.refl _ _, fun _ s => s, rv.ext x⟩, fun i hi => ⟨vs, hs W' H' x, by rw [← r.length]; exact hi⟩⟩
theorem it_tup {a : Addr} {ds : List D} {vs : List V} (hs : ∀ W' H', Lk W H W' H' → SqT G.K H' a vs) (r : Reps G W H ds vs) : ItOk G W H ds (Itt G.K a) := fun W' H' x =>
  ⟨fun i d e => by
    obtain ⟨v, e2, rv⟩ := r.get e
    refine ⟨⟨vs, v, hs W' H' x, e2⟩, fun y H2 ⟨eH, q⟩ => ?_⟩
    subst eH
    have := q vs (hs W' H2 x)
    rw [e2] at this; cases this
    exact ⟨W', Ext.refl _ _, fun _ s => s, rv.ext x⟩, fun i hi => ⟨vs, hs W' H' x, by rw [← r.length]; exact hi⟩⟩
theorem it_str {s : List Nat} (o : okS s) : ItOk G W H (s.map fun c => .str [c]) (Its ⟨s.toArray⟩) := fun W' H' x =>
  ⟨fun i d e => by
    rw [List.getElem?_map] at e
    cases ec : s[i]? with
    | none => rw [ec] at e; cases e
    | some c =>
      rw [ec] at e
      have hl := (List.getElem?_eq_some_iff.mp ec).1
      refine ⟨by show i < s.toArray.size; simpa using hl, fun y H2 ⟨eH, c', e', ev⟩ => ?_⟩
      subst eH; subst ev
      have e' : s.toArray[i]? = some c' := e'
      rw [List.getElem?_toArray, ec] at e'
      cases e'
      cases e
      refine ⟨W', Ext.refl _ _, fun _ s => s, rfl, ?_⟩
      have := List.all_eq_true.mp o c (List.mem_of_getElem? ec)
      show ([c].all fun c => decide (c < 0x110000)) = true
      simp only [List.all_cons, List.all_nil, Bool.and_true]
      exact this, fun i hi => by
    rw [List.length_map] at hi
    show s.toArray.size ≤ i
    simpa using hi⟩
theorem i_of {tg e : Expr} {em : EM} (hK : F.G.K = X.K) (h : PE X e (TrE F wx em)) : PI X tg e (TrI F wx (iOf em)) :=
  PI.imp (PI.or (pi_list h) (PI.or (pi_tup h) (pi_str h))) fun σ H R ⟨W, ρ, hp, g, q⟩ => by
    unfold iOf at q
    cases ee : em ρ hp with
    | ex c h1 =>
      rw [ee] at q
      exact .inl ⟨W, ρ, hp, g, by rw [ee]; exact q⟩
    | bad => rw [ee] at q; exact q.elim
    | ok d h1 =>
      rw [ee] at q
      have q : Fin F wx σ (ItOk F.G) W H R (match itemsD d with | some ds => .ok ds h1 | none => .bad) := q
      cases d with
      | lst ds =>
        refine .inl ⟨W, ρ, hp, g, ?_⟩
        rw [ee]
        intro W' v H' x s r
        obtain ⟨a, vs, rfl, t, rs⟩ := r
        refine ⟨a, rfl, ⟨vs, hK ▸ SqL.of t.2⟩, q W' _ H' x s ?_⟩
        rw [← hK]
        exact it_list (vs := vs) (fun W2 H2 l => SqL.of (t.ext l).2) rs
      | scr ds =>
        refine .inl ⟨W, ρ, hp, g, ?_⟩
        rw [ee]
        intro W' v H' x s r
        obtain ⟨a, vs, rfl, t, rs⟩ := r
        refine ⟨a, rfl, ⟨vs, hK ▸ SqL.fz (K := F.G.K) t (Lk.refl _ _)⟩, q W' _ H' x s ?_⟩
        rw [← hK]
        exact it_list (vs := vs) (fun W2 H2 l => SqL.fz (K := F.G.K) t l) rs
      | tup ds =>
        refine .inr (.inl ⟨W, ρ, hp, g, ?_⟩)
        rw [ee]
        intro W' v H' x s r
        obtain ⟨a, vs, rfl, t, rs⟩ := r
        refine ⟨a, rfl, ⟨vs, hK ▸ t.sq⟩, q W' _ H' x s ?_⟩
        rw [← hK]
        exact it_tup (vs := vs) (fun W2 H2 l => (t.ext l).sq) rs
      | str s =>
        refine .inr (.inr ⟨W, ρ, hp, g, ?_⟩)
        rw [ee]
        intro W' v H' x s' r
        obtain ⟨rfl, o⟩ := r
        exact ⟨_, rfl, q W' _ H' x s' (it_str o)⟩
      | _ => exact q.elim
end
end Z

/-! Z11: ranges, enumerate, zip; for, while; comprehensions -/
namespace Z
open PySem PySem.Spec PyProof.Rows L2

def rngL : Int → Nat → List D
  | _, 0 => []
  | lo, n + 1 => .int lo :: rngL (lo + 1) n
theorem rngL_len : ∀ (lo : Int) (n : Nat), (rngL lo n).length = n
  | _, 0 => rfl
  | lo, n + 1 => by rw [rngL, List.length_cons, rngL_len]
theorem rngL_get : ∀ {lo : Int} {n i : Nat} {d : D}, (rngL lo n)[i]? = some d → i < n ∧ d = .int (lo + i)
  | _, 0, _, _, h => by simp [rngL] at h
  | lo, n + 1, 0, d, h => by
    simp only [rngL, List.getElem?_cons_zero, Option.some.injEq] at h
    subst h
    exact ⟨Nat.succ_pos _, by simp⟩
  | lo, n + 1, i + 1, d, h => by
    simp only [rngL, List.getElem?_cons_succ] at h
    obtain ⟨h1, h2⟩ := rngL_get h
    exact ⟨Nat.succ_lt_succ h1, by rw [h2]; congr 1; omega⟩
def enumL : Nat → List D → List D
  | _, [] => []
  | k, d :: ds => .tup [.int k, d] :: enumL (k + 1) ds
theorem enumL_len : ∀ (k : Nat) (ds : List D), (enumL k ds).length = ds.length
  | _, [] => rfl
  | k, d :: ds => by rw [enumL, List.length_cons, List.length_cons, enumL_len]
theorem enumL_get : ∀ {k : Nat} {ds : List D} {i : Nat} {d : D}, (enumL k ds)[i]? = some d → ∃ e, ds[i]? = some e ∧ d = .tup [.int ((k + i : Nat) : Int), e]
  | _, [], _, _, h => by simp [enumL] at h
  | k, e :: ds, 0, d, h => by
    simp only [enumL, List.getElem?_cons_zero, Option.some.injEq] at h
    subst h
    exact ⟨e, rfl, by simp⟩
  | k, e :: ds, i + 1, d, h => by
    simp only [enumL, List.getElem?_cons_succ] at h
    obtain ⟨e', h1, h2⟩ := enumL_get h
    exact ⟨e', by simpa using h1, by rw [h2, show k + 1 + i = k + (i + 1) by omega]⟩
def zipL : List D → List D → List D
  | x :: xs, y :: ys => .tup [x, y] :: zipL xs ys
  | _, _ => []
theorem zipL_get : ∀ {xs ys : List D} {i : Nat} {d : D}, (zipL xs ys)[i]? = some d → ∃ x y, xs[i]? = some x ∧ ys[i]? = some y ∧ d = .tup [x, y]
  | [], _, _, _, h => by simp [zipL] at h
  | _ :: _, [], _, _, h => by simp [zipL] at h
  | x :: xs, y :: ys, 0, d, h => by
    simp only [zipL, List.getElem?_cons_zero, Option.some.injEq] at h
    exact ⟨x, y, rfl, rfl, h.symm⟩
  | x :: xs, y :: ys, i + 1, d, h => by
    simp only [zipL, List.getElem?_cons_succ] at h
    obtain ⟨a, b, h1, h2, h3⟩ := zipL_get h
    exact ⟨a, b, by simpa using h1, by simpa using h2, h3⟩
theorem zipL_len : ∀ {xs ys : List D}, (zipL xs ys).length = min xs.length ys.length
  | [], _ => by simp [zipL]
  | _ :: _, [] => by simp [zipL]
  | x :: xs, y :: ys => by simp only [zipL, List.length_cons, zipL_len]; omega
section
variable {F : Fr} {X : Cx} {wx : WX} {σ : L2.St} {G : Gl} {W W' W2 : Wd} {H H' H2 : Hp} {hp hp' : Hc} {E : Ends} {ρ : Rho}
theorem ext_fz' {p : Addr} {o : HO} (e : H p = none) : Ext W H (W.fzA p) (upd H p o) where
  m := fun _ _ h => h
  f := fun _ h => .inl h
  l := fun a φ h => by rw [upd_ne (ne_of_none h e)]; exact h
  k := fun a u h _ _ => by rw [upd_ne (ne_of_none h e)]; exact h
  fk := fun a o h q _ => by rw [upd_ne (ne_of_none q e)]; exact q
  t := fun a h => by
    unfold upd
    split
    · simp
    · exact h
  nf := fun a h => h.elim .inl fun z => .inr (by rw [z]; exact e)
  nm := fun _ _ h => .inl h
theorem it_range {lo : Int} {n : Nat} : ItOk G W H (rngL lo n) (Itr lo n) := fun W' H' x =>
  ⟨fun i d e => by
    obtain ⟨h1, rfl⟩ := rngL_get e
    exact ⟨h1, fun y H2 ⟨eH, ey⟩ => by subst eH; subst ey; exact ⟨W', Ext.refl _ _, fun _ s => s, rfl⟩⟩, fun i hi => by rw [rngL_len] at hi; exact hi⟩
/-- a new pair at each turn -/
theorem it_enum {a : Addr} {ds : List D} {vs : List V} (hs : ∀ W' H', Lk W H W' H' → SqL G.K H' a vs) (r : Reps G W H ds vs) : ItOk G W H (enumL 0 ds) (Ite G.K a) := fun W' H' x =>
  ⟨fun i d e => by
    obtain ⟨d', e1, rfl⟩ := enumL_get e
    obtain ⟨v, e2, rv⟩ := r.get e1
    refine ⟨⟨vs, v, hs W' H' x, e2⟩, fun y H2 ⟨T, z, ey, hT, eH, q⟩ => ?_⟩
    have := q vs (hs W' H' x)
    rw [e2] at this; cases this
    subst ey; subst eH
    have x2 := ext_fz' (W := W') (o := .tup [.int (i : Nat), v]) hT
    refine ⟨W'.fzA T, x2, fun hp s => st_fz s hT, T, _, rfl, fz_tup, _, _, rfl, ?_, _, _, rfl, (rv.ext x).ext x2.toLk, rfl⟩
    show V.int _ = V.int _
    rw [Nat.zero_add], fun i hi => by rw [enumL_len] at hi; exact ⟨vs, hs W' H' x, by rw [← r.length]; exact hi⟩⟩
theorem it_zip {a b : Addr} {xs ys : List D} {vs us : List V} (hs : ∀ W' H', Lk W H W' H' → SqL G.K H' a vs) (ht : ∀ W' H', Lk W H W' H' → SqL G.K H' b us) (r : Reps G W H xs vs) (r' : Reps G W H ys us) : ItOk G W H (zipL xs ys) (Itz G.K a b) := fun W' H' x =>
  ⟨fun i d e => by
    obtain ⟨d1, d2, e1, e1', rfl⟩ := zipL_get e
    obtain ⟨v, e2, rv⟩ := r.get e1
    obtain ⟨u, e2', ru⟩ := r'.get e1'
    refine ⟨⟨vs, us, v, u, hs W' H' x, ht W' H' x, e2, e2'⟩, fun y H2 ⟨T, z1, z2, ey, hT, eH, q, q'⟩ => ?_⟩
    have := q vs (hs W' H' x)
    rw [e2] at this; cases this
    have := q' us (ht W' H' x)
    rw [e2'] at this; cases this
    subst ey; subst eH
    have x2 := ext_fz' (W := W') (o := .tup [v, u]) hT
    exact ⟨W'.fzA T, x2, fun hp s => st_fz s hT, T, _, rfl, fz_tup, _, _, rfl, (rv.ext x).ext x2.toLk, _, _, rfl, (ru.ext x).ext x2.toLk, rfl⟩, fun i hi => by
    rw [zipL_len, r.length, r'.length] at hi
    exact ⟨vs, us, hs W' H' x, ht W' H' x, by omega⟩⟩
theorem it_zipT {a b : Addr} {xs ys : List D} {vs us : List V} (hs : ∀ W' H', Lk W H W' H' → SqT G.K H' a vs) (ht : ∀ W' H', Lk W H W' H' → SqT G.K H' b us) (r : Reps G W H xs vs) (r' : Reps G W H ys us) : ItOk G W H (zipL xs ys) (RZ.ItzT G.K a b) := fun W' H' x =>
  ⟨fun i d e => by
    obtain ⟨d1, d2, e1, e1', rfl⟩ := zipL_get e
    obtain ⟨v, e2, rv⟩ := r.get e1
    obtain ⟨u, e2', ru⟩ := r'.get e1'
    refine ⟨⟨vs, us, v, u, hs W' H' x, ht W' H' x, e2, e2'⟩, fun y H2 ⟨T, z1, z2, ey, hT, eH, q, q'⟩ => ?_⟩
    have := q vs (hs W' H' x)
    rw [e2] at this; cases this
    have := q' us (ht W' H' x)
    rw [e2'] at this; cases this
    subst ey; subst eH
    have x2 := ext_fz' (W := W') (o := .tup [v, u]) hT
    exact ⟨W'.fzA T, x2, fun hp s => st_fz s hT, T, _, rfl, fz_tup, _, _, rfl, (rv.ext x).ext x2.toLk, _, _, rfl, (ru.ext x).ext x2.toLk, rfl⟩, fun i hi => by
    rw [zipL_len, r.length, r'.length] at hi
    exact ⟨vs, us, hs W' H' x, ht W' H' x, by omega⟩⟩
def iR1 (am : AM) : IM := fun ρ h => (am ρ h).bind fun xs h1 => match xs with
  | [.int j] => if -(2 ^ 62) ≤ j ∧ j < 2 ^ 62 then .ok (rngL 0 j.toNat) h1 else .bad
  | _ => .bad
def iR2 (am : AM) : IM := fun ρ h => (am ρ h).bind fun xs h1 => match xs with
  | [.int i, .int j] => if -(2 ^ 62) ≤ i ∧ i < 2 ^ 62 ∧ -(2 ^ 62) ≤ j ∧ j < 2 ^ 62 then .ok (rngL i (j - i).toNat) h1 else .bad
  | _ => .bad
theorem i_r1 {tg a : Expr} {am : AM} {p pos : Pos} (hm : X.mg "range" = none) (ha : PA X [a] (TrA F wx am)) (hg : L2.Gl X "range" := by rfl) (hs : starEach [a] X.env = [(false, eval a X.env)] := by rfl) : PI X tg (.Call (.Name "range" p) [a] [] pos) (TrI F wx (iR1 am)) :=
  PI.imp (pi_range1 hg hm ha hs) fun σ H R ⟨W, ρ, hp, g, q⟩ => ⟨W, ρ, hp, g, Fin.bind q fun xs hp1 W1 vs H1 x1 s1 r1 q1 => by
    split at q1
    · obtain ⟨v, rfl, rv⟩ := reps1 r1
      cases rv
      split at q1
      · rename_i hb
        exact ⟨_, rfl, hb.1, hb.2, q1 W1 _ H1 (Ext.refl _ _) s1 it_range⟩
      · exact q1.elim
    · exact q1.elim⟩
theorem i_r2 {tg a b : Expr} {am : AM} {p pos : Pos} (hm : X.mg "range" = none) (ha : PA X [a, b] (TrA F wx am)) (hg : L2.Gl X "range" := by rfl) (hs : starEach [a, b] X.env = [(false, eval a X.env), (false, eval b X.env)] := by rfl) (hs2 : starEach [b] X.env = [(false, eval b X.env)] := by rfl) : PI X tg (.Call (.Name "range" p) [a, b] [] pos) (TrI F wx (iR2 am)) :=
  PI.imp (pi_range2 hg hm ha hs hs2) fun σ H R ⟨W, ρ, hp, g, q⟩ => ⟨W, ρ, hp, g, Fin.bind q fun xs hp1 W1 vs H1 x1 s1 r1 q1 => by
    split at q1
    · obtain ⟨v, v2, rfl, rv, rv2⟩ := reps2 r1
      cases rv; cases rv2
      split at q1
      · rename_i hb
        exact ⟨_, _, rfl, hb, q1 W1 _ H1 (Ext.refl _ _) s1 it_range⟩
      · exact q1.elim
    · exact q1.elim⟩
def iEn (am : AM) : IM := fun ρ h => (am ρ h).bind fun xs h1 => match xs with
  | [.lst ds] => .ok (enumL 0 ds) h1
  | [.scr ds] => .ok (enumL 0 ds) h1
  | _ => .bad
theorem i_en {a : Expr} {am : AM} {p pos tpos : Pos} {elts : List Expr} {kk : Nat} (hK : F.G.K = X.K) (hm : X.mg "enumerate" = none) (ha : PA X [a] (TrA F wx am)) (hg : L2.Gl X "enumerate" := by rfl) (hs : starEach [a] X.env = [(false, eval a X.env)] := by rfl) : PI X (.Tuple elts kk tpos) (.Call (.Name "enumerate" p) [a] [] pos) (TrI F wx (iEn am)) :=
  PI.imp (pi_enum hg hm ha hs) fun σ H R ⟨W, ρ, hp, g, q⟩ => ⟨W, ρ, hp, g, Fin.bind q fun xs hp1 W1 vs H1 x1 s1 r1 q1 => by
    split at q1
    · obtain ⟨v, rfl, a, ws, rfl, t, rs⟩ := reps1 r1
      refine ⟨a, ws, rfl, SqL.of t.2, q1 W1 _ H1 (Ext.refl _ _) s1 ?_⟩
      rw [← hK]
      exact it_enum (fun W2 H2 l => SqL.of (t.ext l).2) rs
    · obtain ⟨v, rfl, a, ws, rfl, t, rs⟩ := reps1 r1
      refine ⟨a, ws, rfl, hK ▸ SqL.fz (K := F.G.K) t (Lk.refl _ _), q1 W1 _ H1 (Ext.refl _ _) s1 ?_⟩
      rw [← hK]
      exact it_enum (fun W2 H2 l => SqL.fz (K := F.G.K) t l) rs
    · exact q1.elim⟩
def iZp (am : AM) : IM := fun ρ h => (am ρ h).bind fun xs h1 => match xs with
  | [.lst ds, .lst es] => .ok (zipL ds es) h1
  | [.tup ds, .tup es] => .ok (zipL ds es) h1
  | _ => .bad
theorem i_zp {a b : Expr} {am : AM} {p pos tpos : Pos} {elts : List Expr} {kk : Nat} (hK : F.G.K = X.K) (hm : X.mg "zip" = none) (ha : PA X [a, b] (TrA F wx am)) (hg : L2.Gl X "zip" := by rfl) (hs : starEach [a, b] X.env = (false, eval a X.env) :: starEach [b] X.env := by rfl) (hpl : (backTo pos (starEach [b] X.env)).any (·.1) = false := by rfl) : PI X (.Tuple elts kk tpos) (.Call (.Name "zip" p) [a, b] [] pos) (TrI F wx (iZp am)) :=
  PI.imp (RZ.pi_zipA hg hm ha hs hpl) fun σ H R ⟨W, ρ, hp, g, q⟩ => ⟨W, ρ, hp, g, Fin.bind q fun xs hp1 W1 vs H1 x1 s1 r1 q1 => by
    split at q1
    · obtain ⟨v, v2, rfl, ⟨a, ws, rfl, t, rs⟩, ⟨b, zs, rfl, t2, rs2⟩⟩ := reps2 r1
      refine ⟨a, b, ws, zs, rfl, .inl ⟨SqL.of t.2, SqL.of t2.2, q1 W1 _ H1 (Ext.refl _ _) s1 ?_⟩⟩
      rw [← hK]
      exact it_zip (fun W2 H2 l => SqL.of (t.ext l).2) (fun W2 H2 l => SqL.of (t2.ext l).2) rs rs2
    · obtain ⟨v, v2, rfl, ⟨a, ws, rfl, t, rs⟩, ⟨b, zs, rfl, t2, rs2⟩⟩ := reps2 r1
      refine ⟨a, b, ws, zs, rfl, .inr ⟨hK ▸ t.sq, hK ▸ t2.sq, q1 W1 _ H1 (Ext.refl _ _) s1 ?_⟩⟩
      rw [← hK]
      exact it_zipT (fun W2 H2 l => (t.ext l).sq) (fun W2 H2 l => (t2.ext l).sq) rs rs2
    · exact q1.elim⟩

/-! ### for -/
def loopM (t : Tg) (b : SM) : List D → Rho → Hc → O
  | [], ρ, h => .nx ρ h
  | d :: ds, ρ, h => (match bindD t d ρ with
    | none => .bad
    | some ρ1 => (match b ρ1 h with
      | .nx ρ2 h2 => loopM t b ds ρ2 h2
      | .ct ρ2 h2 => loopM t b ds ρ2 h2
      | .bk ρ2 h2 => .nx ρ2 h2
      | o => o))
def sFor (t : Tg) (im : IM) (b : SM) : SM := fun ρ h => (im ρ h).toS ρ fun ds h1 => loopM t b ds ρ h1
theorem for_imp {t : Tg} {im : IM} {b : SM} {D : Ends} {σ : L2.St} {H : Hp} (h : TrS F wx (sFor t im b) D σ H) : tFor (TrI F wx im) (TrG F t) (TrS F wx b) D σ H := by
  obtain ⟨W, ρ, hp, g, h⟩ := h
  refine ⟨W, ρ, hp, g, FinS.bind g h fun ds hp1 W1 J H1 x1 g1 it h1 => ?_⟩
  refine ⟨fun i m σ H => m = ds.length - i ∧ i ≤ ds.length ∧ ∃ W ρ hp, Gd F W ρ hp σ H ∧ Lk W1 H1 W H ∧ FinS F wx W H D (loopM t b (ds.drop i) ρ hp), ⟨ds.length, rfl, Nat.zero_le _, W1, ρ, hp1, g1, Lk.refl _ _, by rw [List.drop_zero]; exact h1⟩, ?_⟩
  rintro i m σ2 H2 ⟨rfl, hi, W2, ρ2, hp2, g2, l2, f2⟩
  obtain ⟨it1, it2⟩ := it W2 H2 l2
  by_cases hlt : i < ds.length
  · refine .inr ?_
    obtain ⟨go, yl⟩ := it1 i ds[i] (List.getElem?_eq_getElem hlt)
    refine ⟨go, fun σ H => i + 1 ≤ ds.length ∧ ∃ W ρ hp, Gd F W ρ hp σ H ∧ Lk W1 H1 W H ∧ FinS F wx W H D (loopM t b (ds.drop (i + 1)) ρ hp), fun σ' H' q => ⟨ds.length - (i + 1), by omega, rfl, q.1, q.2⟩, fun x H3 y => ?_⟩
    obtain ⟨W3, x3, s3, r3⟩ := yl x H3 y
    rw [List.drop_eq_getElem_cons hlt] at f2
    simp only [loopM] at f2
    split at f2
    · exact f2.elim
    · rename_i ρ3 eb
      refine ⟨W3, ρ2, hp2, ds[i], ρ3, g2.ext x3 (s3 _ g2.st), r3, eb, fun σ4 g4 _ => ⟨W3, ρ3, hp2, g4, ?_⟩⟩
      have l3 := l2.trans x3.toLk
      have f3 := FinS.lk x3.toLk f2
      revert f3
      cases b ρ3 hp2 with
      | nx ρ5 hp5 => exact fun f3 W' σ' H' g' l' => ⟨hlt, W', ρ5, hp5, g', l3.trans l', FinS.lk l' f3⟩
      | ct ρ5 hp5 => exact fun f3 W' σ' H' g' l' => ⟨hlt, W', ρ5, hp5, g', l3.trans l', FinS.lk l' f3⟩
      | bk ρ5 hp5 => exact fun f3 => f3
      | rt d hp5 => exact fun f3 => f3
      | ex c ρ5 hp5 => exact fun f3 => f3
      | bad => exact fun f3 => f3
  · refine .inl ⟨it2 i (by omega), ?_⟩
    rw [List.drop_eq_nil_of_le (by omega)] at f2
    exact f2 W2 σ2 H2 g2 (Lk.refl _ _)
theorem s_for {tg iter : Expr} {body : List Stmt} {t : Tg} {im : IM} {b : SM} {pos : Pos} (hp : PassesOwn (model X.prog X.w) X.A X.env X.xe) (hc : X.calm = true) (hg : PG X tg (TrG F t)) (hi : PI X tg iter (TrI F wx im)) (hb : PSs X body (TrS F wx b))
    (hs : ∀ x, foldedSetIterable iter X.env x = pure x := by intro _; rfl) : PS X (.For tg iter body [] pos) (TrS F wx (sFor t im b)) := PS.imp (ps_for hp hc hi hg hb hs) fun _ _ _ => for_imp

/-! ### while -/
def whileM (t : TM) (b : SM) : Nat → Rho → Hc → O := Nat.rec (fun _ _ => .bad) fun _ again ρ h => (t ρ h).toS ρ fun c h1 => if c = true then (match b ρ h1 with
  | .nx ρ2 h2 => again ρ2 h2
  | .ct ρ2 h2 => again ρ2 h2
  | .bk ρ2 h2 => .nx ρ2 h2
  | o => o) else .nx ρ h1
theorem whileM_succ (t : TM) (b : SM) (n : Nat) (ρ : Rho) (h : Hc) : whileM t b (n + 1) ρ h = (t ρ h).toS ρ fun c h1 => if c = true then (match b ρ h1 with
  | .nx ρ2 h2 => whileM t b n ρ2 h2
  | .ct ρ2 h2 => whileM t b n ρ2 h2
  | .bk ρ2 h2 => .nx ρ2 h2
  | o => o) else .nx ρ h1 := rfl
/-- n: turns at most -/
def sWhile (n : Nat) (t : TM) (b : SM) : SM := fun ρ h => whileM t b n ρ h
theorem while_imp {n : Nat} {t : TM} {b : SM} {D : Ends} {σ : L2.St} {H : Hp} (h : TrS F wx (sWhile n t b) D σ H) : tWhile (TrT F wx t) (TrS F wx b) D σ H := by
  obtain ⟨W, ρ, hp, g, h⟩ := h
  refine ⟨fun m σ H => ∃ W ρ hp, Gd F W ρ hp σ H ∧ FinS F wx W H D (whileM t b m ρ hp), ⟨n, W, ρ, hp, g, h⟩, ?_⟩
  rintro m σ2 H2 ⟨W2, ρ2, hp2, g2, f2⟩
  cases m with
  | zero => exact f2.elim
  | succ m =>
    rw [whileM_succ] at f2
    refine ⟨W2, ρ2, hp2, g2, FinS.bind g2 f2 fun c hp3 W3 v H3 x3 g3 r3 f3 => ?_⟩
    subst r3
    cases c with
    | false => rw [if_neg Bool.false_ne_true] at f3 ⊢; exact f3 W3 σ2 H3 g3 (Lk.refl _ _)
    | true =>
      rw [if_pos rfl] at f3 ⊢
      refine ⟨fun σ H => ∃ W ρ hp, Gd F W ρ hp σ H ∧ FinS F wx W H D (whileM t b m ρ hp), fun σ' H' q => ⟨m, Nat.lt_succ_self m, q⟩, W3, ρ2, hp3, g3, ?_⟩
      revert f3
      cases b ρ2 hp3 with
      | nx ρ5 hp5 => exact fun f3 W' σ' H' g' l' => ⟨W', ρ5, hp5, g', FinS.lk l' f3⟩
      | ct ρ5 hp5 => exact fun f3 W' σ' H' g' l' => ⟨W', ρ5, hp5, g', FinS.lk l' f3⟩
      | bk ρ5 hp5 => exact fun f3 => f3
      | rt d hp5 => exact fun f3 => f3
      | ex c ρ5 hp5 => exact fun f3 => f3
      | bad => exact fun f3 => f3
theorem s_while {c : Expr} {body : List Stmt} {n : Nat} {t : TM} {b : SM} {pos : Pos} (hp : PassesOwn (model X.prog X.w) X.A X.env X.xe) (hc : PT X c (TrT F wx t)) (hb : PSs X body (TrS F wx b)) : PS X (.While c body [] pos) (TrS F wx (sWhile n t b)) := PS.imp (ps_while hp hc hb) fun _ _ _ => while_imp
end
end Z

/-! Z12: list comprehensions -/
namespace Z
open PySem PySem.Spec PyProof.Rows L2

def R.nox {α : Type} : R α → R α
  | .ok a h => .ok a h
  | _ => .bad
@[simp] theorem R.nox_ok {α : Type} (a : α) (h : Hc) : (R.ok a h).nox = .ok a h := rfl
@[simp] theorem R.nox_ex {α : Type} (c : Nat) (h : Hc) : (R.ex c h : R α).nox = .bad := rfl
@[simp] theorem R.nox_bad {α : Type} : (R.bad : R α).nox = .bad := rfl
abbrev wx0 : WX := fun _ _ _ _ => False
def wipeR (ρ : Rho) : List Nat → Rho
  | [] => ρ
  | v :: vs => (wipeR ρ vs).set v .u
def tYesM : TM := fun _ h => .ok true h
def lcLoop (t : Tg) (tt : TM) (em : EM) (ρ : Rho) : List D → Hc → R (List D)
  | [], h => .ok [] h
  | d :: ds, h => (match bindD t d ρ with
    | none => .bad
    | some ρ1 => (tt ρ1 h).nox.bind fun c h1 => if c = true then (em ρ1 h1).nox.bind fun y h2 => (lcLoop t tt em ρ ds h2).bind fun ys h3 => .ok (y :: ys) h3 else lcLoop t tt em ρ ds h1)
/-- vs: the slots of the comprehension's own names -/
def eLc (t : Tg) (vs : List Nat) (im : IM) (tt : TM) (em : EM) : EM := fun ρ h => (im ρ h).bind fun ds h1 => if ds.length ≤ 16777216 then (lcLoop t tt em (wipeR ρ vs) ds h1).bind fun ys h2 => .ok (.lst ys) h2 else .bad
section
variable {F : Fr} {X : Cx} {wx : WX} {σ : L2.St} {G : Gl} {W W' W1 W2 : Wd} {H H' H1 H2 : Hp} {hp hp' : Hc} {E : Ends} {ρ : Rho}
theorem Gd.setU {i : Nat} (g : Gd F W ρ hp σ H) : Gd F W (ρ.set i .u) hp (σ.set i none) H where
  x0 := g.x0
  st := g.st
  env := {
    len := by rw [List.length_set, List.length_set]; exact g.env.len
    at_ := fun j s ov h1 h2 => by
      rcases set_some h1 with ⟨e1, e2, hl⟩ | ⟨n, h1⟩
      · subst e2; trivial
      · rw [List.getElem?_set_ne (Ne.symm n)] at h2
        exact g.env.at_ j s ov h1 h2
    ap := fun j k a h1 h2 => g.env.ap j k a (owns_setU h1).2 (owns_setU h2).2
    nw := fun j a h => g.env.nw j a (owns_setU h).2 }
theorem Gd.wipe (g : Gd F W ρ hp σ H) : ∀ vs : List Nat, Gd F W (wipeR ρ vs) hp (L2.wipe σ vs) H
  | [] => g
  | _ :: vs => (Gd.wipe g vs).setU
theorem wipe_sub : ∀ {ws vs : List Nat} {σ : L2.St}, (∀ i ∈ ws, vs.contains i = true) → L2.wipe (L2.wipe σ ws) vs = L2.wipe σ vs
  | [], _, _, _ => rfl
  | w :: ws, vs, σ, h => by
    show L2.wipe ((L2.wipe σ ws).set w none) vs = _
    rw [wipe_set (h w List.mem_cons_self)]
    exact wipe_sub fun i hi => h i (List.mem_cons_of_mem _ hi)
theorem wipe_wipe {vs : List Nat} : L2.wipe (L2.wipe σ vs) vs = L2.wipe σ vs := wipe_sub fun i hi => by simpa using hi
theorem Fin.bindX {α β α' β' : Type} {rel : Wd → Hp → α → β → Prop} {rel' : Wd → Hp → α' → β' → Prop} {Q : β → Hp → Prop} {Q' : β' → Hp → Prop} {r : R α} {k : α → Hc → R α'} {Ws : Wd} {Hs : Hp} {σ2 : L2.St} (h : Fin F wx σ rel' Ws Hs Q' (r.nox.bind k))
    (nx : ∀ d hp' W' v H', Ext W H W' H' → St0 F.G W' H' hp' → rel W' H' d v → Fin F wx σ rel' Ws Hs Q' (k d hp') → Q v H') : Fin F wx0 σ2 rel W H Q r := by
  cases r with
  | ok d hp => exact fun W2 v H2 x2 s2 r2 => nx d hp W2 v H2 x2 s2 r2 h
  | ex c hp => exact h.elim
  | bad => exact h
/-- a list that is being filled -/
structure Fill (W : Wd) (H : Hp) (p : Addr) (vs : List V) : Prop where
  e : H p = some (.lst vs)
  f : ¬ W.fz p
  m : ∀ n, W.m n ≠ some p
theorem Fill.ext {p : Addr} {vs : List V} (h : Fill W H p vs) (x : Ext W H W' H') : Fill W' H' p vs :=
  ⟨x.k p _ h.e h.m (fun ps z => by cases z), fun z => (x.nf p z).elim h.f fun q => (by rw [h.e] at q; cases q), fun n z => (x.nm n p z).elim (h.m n) fun q => (by rw [h.e] at q; cases q)⟩
theorem ext_outN {p : Addr} {o' : HO} (x : Ext W H W' H') (e : H p = none) : Ext W H W' (upd H' p o') where
  m := x.m
  f := x.f
  l := fun a φ h => by rw [upd_ne (ne_of_none h e)]; exact x.l a φ h
  fk := fun a o h q n => by rw [upd_ne (ne_of_none q e)]; exact x.fk a o h q n
  k := fun a o h hn ht => by rw [upd_ne (ne_of_none h e)]; exact x.k a o h hn ht
  t := fun a h => by
    unfold upd
    split
    · simp
    · exact x.t a h
  nf := x.nf
  nm := x.nm
theorem Fill.start {p : Addr} (s : St0 G W H hp) (e : H p = none) : Ext W H W (upd H p (.lst [])) ∧ St0 G W (upd H p (.lst [])) hp ∧ Fill W (upd H p (.lst [])) p [] :=
  ⟨ext_own s e, st_own s e, upd_same, fun z => s.ft p z e, fun n z => s.mt z e⟩
theorem Fill.put {p : Addr} {vs us : List V} (h : Fill W H p vs) (s : St0 G W H hp) : St0 G W (upd H p (.lst us)) hp ∧ Fill W (upd H p (.lst us)) p us :=
  ⟨st_out s h.e h.f h.m (fun ps z => by cases z) (fun q z => by unfold LamX.CodeO at z; cases z) (fun φ z => by cases z), upd_same, h.f, h.m⟩
theorem lc_imp {t : Tg} {vs : List Nat} {im : IM} {tt : TM} {em : EM} {Q : VK} (ht : t.inn vs = true) (h : TrN F wx (eLc t vs im tt em) σ H Q) : tLc (TrI F wx im) (TrG F t) (TrT F wx0 tt) (TrE F wx0 em) vs σ H Q := by
  obtain ⟨W, ρ, hp, g, h⟩ := h
  refine ⟨W, ρ, hp, g, Fin.bindN h fun ds hp1 W1 J H1 x1 s1 it h1 => fun p hp0 => ?_⟩
  by_cases hlen : ds.length ≤ 16777216
  case neg => rw [if_neg hlen] at h1; exact h1.elim
  rw [if_pos hlen] at h1
  have n0 : H p = none := Classical.byContradiction fun q => x1.t p q hp0
  obtain ⟨xs, ss, fs⟩ := Fill.start s1 hp0
  refine ⟨fun i m H' => m = ds.length - i ∧ i ≤ ds.length ∧ ∃ W' hp' acc us, Ext W1 H1 W' H' ∧ St0 F.G W' H' hp' ∧ Fill W' H' p us ∧ Reps F.G W' H' acc us ∧ acc.length ≤ i ∧
    Fin F wx σ (RepN F.G H) W H Q ((lcLoop t tt em (wipeR ρ vs) (ds.drop i) hp').bind fun ys h' => .ok (.lst (acc ++ ys)) h'), ⟨ds.length, rfl, Nat.zero_le _, W1, hp1, [], [], xs, ss, fs, rfl, Nat.le_refl _, by rw [List.drop_zero]; exact h1⟩, ?_⟩
  rintro i m H3 ⟨rfl, hi, W3, hp3, acc, us, x3, s3, f3, r3, hacc, q3⟩
  obtain ⟨it1, it2⟩ := it W3 H3 x3.toLk
  by_cases hlt : i < ds.length
  · refine .inr ?_
    obtain ⟨go, yl⟩ := it1 i ds[i] (List.getElem?_eq_getElem hlt)
    refine ⟨go, fun H' => i + 1 ≤ ds.length ∧ ∃ W' hp' acc us, Ext W1 H1 W' H' ∧ St0 F.G W' H' hp' ∧ Fill W' H' p us ∧ Reps F.G W' H' acc us ∧ acc.length ≤ i + 1 ∧
      Fin F wx σ (RepN F.G H) W H Q ((lcLoop t tt em (wipeR ρ vs) (ds.drop (i + 1)) hp').bind fun ys h' => .ok (.lst (acc ++ ys)) h'), fun H' q => ⟨ds.length - (i + 1), by omega, rfl, q.1, q.2⟩, fun x H4 y => ?_⟩
    obtain ⟨W4, x4, s4, r4⟩ := yl x H4 y
    rw [List.drop_eq_getElem_cons hlt] at q3
    simp only [lcLoop] at q3
    split at q3
    · exact q3.elim
    · rename_i ρ4 eb
      have s4 := s4 hp3 s3
      have x4' := x3.trans x4
      have gw := (g.ext (x1.trans x4') s4).wipe vs
      refine ⟨W4, wipeR ρ vs, hp3, ds[i], ρ4, gw, r4, eb, fun σ4 g4 o4 => ⟨(o4 vs ht).trans wipe_wipe, W4, ρ4, hp3, g4, ?_⟩⟩
      have f4 := f3.ext x4
      have r4' := r3.ext x4.toLk
      have q4 : Fin F wx σ (RepN F.G H) W H Q ((tt ρ4 hp3).nox.bind fun c h1 => (if c = true then (em ρ4 h1).nox.bind fun y h2 => (lcLoop t tt em (wipeR ρ vs) (ds.drop (i + 1)) h2).bind fun ys h3 => .ok (y :: ys) h3 else lcLoop t tt em (wipeR ρ vs) (ds.drop (i + 1)) h1).bind fun ys h' => .ok (.lst (acc ++ ys)) h') := by
        cases hz : tt ρ4 hp3 with
        | ok c h5 => rw [hz] at q3; exact q3
        | ex c h5 => rw [hz] at q3; exact q3
        | bad => rw [hz] at q3; exact q3
      refine Fin.bindX q4 fun c hp5 W5 b H5 x5 s5 r5 q5 => ?_
      subst r5
      cases c with
      | false =>
        rw [if_neg Bool.false_ne_true] at q5 ⊢
        exact ⟨hlt, W5, hp5, acc, us, x4'.trans x5, s5, f4.ext x5, r4'.ext x5.toLk, Nat.le_succ_of_le hacc, q5⟩
      | true =>
        rw [if_pos rfl] at q5 ⊢
        have q6 : Fin F wx σ (RepN F.G H) W H Q ((em ρ4 hp5).nox.bind fun y h2 => (lcLoop t tt em (wipeR ρ vs) (ds.drop (i + 1)) h2).bind fun ys h3 => .ok (.lst ((acc ++ [y]) ++ ys)) h3) := by
          cases hz : em ρ4 hp5 with
          | ok c h5 =>
            rw [hz] at q5
            have q5 : Fin F wx σ (RepN F.G H) W H Q (((lcLoop t tt em (wipeR ρ vs) (ds.drop (i + 1)) h5).bind fun ys h3 => .ok (c :: ys) h3).bind fun ys h' => .ok (.lst (acc ++ ys)) h') := q5
            show Fin F wx σ (RepN F.G H) W H Q ((lcLoop t tt em (wipeR ρ vs) (ds.drop (i + 1)) h5).bind fun ys h3 => .ok (.lst ((acc ++ [c]) ++ ys)) h3)
            revert q5
            cases lcLoop t tt em (wipeR ρ vs) (ds.drop (i + 1)) h5 with
            | ok ys h7 =>
              intro q5
              show Fin F wx σ (RepN F.G H) W H Q (.ok (.lst ((acc ++ [c]) ++ ys)) h7)
              rw [List.append_assoc]
              exact q5
            | ex c h7 => exact fun q5 => q5
            | bad => exact fun q5 => q5
          | ex c h5 => rw [hz] at q5; exact q5
          | bad => rw [hz] at q5; exact q5
        refine ⟨W5, ρ4, hp5, g4.ext x5 s5, Fin.bindX q6 fun y hp7 W7 v H7 x7 s7 r7 q7 => ?_⟩
        have f7 := (f4.ext x5).ext x7
        have r7' := (r4'.ext x5.toLk).ext x7.toLk
        obtain ⟨s8, f8⟩ := f7.put (us := us ++ [v]) s7
        refine ⟨us, f7.e, ?_, hlt, W7, hp7, acc ++ [y], us ++ [v], ext_outN ((x4'.trans x5).trans x7) hp0, s8, f8, Reps.ext (lk_out f7.f fun φ z => by rw [f7.e] at z; cases z) (r7'.append (Reps.one r7)), ?_, q7⟩
        · rw [← r7'.length]
          exact lim_lt (by omega)
        · rw [List.length_append, List.length_singleton]
          omega
  · refine .inl ⟨it2 i (by omega), ?_⟩
    rw [List.drop_eq_nil_of_le (by omega)] at q3
    have q3 : Fin F wx σ (RepN F.G H) W H Q (.ok (.lst (acc ++ [])) hp3) := q3
    rw [List.append_nil] at q3
    exact q3 W3 _ H3 (x1.trans x3) s3 ⟨p, us, rfl, f3.e, r3, n0, f3.f, f3.m⟩
theorem t_yes : PTs X [] (TrT F wx tYesM) := ⟨fun p s σ H Q I ⟨W, ρ, hp, g, h⟩ => (pts_nil (X := X)).run p s σ H Q I (Fin.here h g.st rfl)⟩
section
variable {elt tg iter : Expr} {ifs : List Expr} {scope : Scope} {own : List (Str × Nat)} {pos : Pos} {t : Tg} {im : IM} {tt : TM} {em : EM}
theorem n_lc (own : List (Str × Nat)) (hc : X.calm = true) (hN : X.N.Nodup) (hi : PI X tg iter (TrI F wx im)) (ok : BlkOk X.N X.env.scope scope own)
    (hg : ∀ (s : Shared) (H : Hp) (C : Addr) (cl : List (Str × Addr)) (fp : List Addr), PG (X.blk s H scope (compEnvC scope cl C X.env) fp) tg (TrG F t))
    (ht : ∀ (s : Shared) (H : Hp) (C : Addr) (cl : List (Str × Addr)) (fp : List Addr), PTs (X.blk s H scope (compEnvC scope cl C X.env) fp) ifs (TrT F wx0 tt))
    (he : ∀ (s : Shared) (H : Hp) (C : Addr) (cl : List (Str × Addr)) (fp : List Addr), PE (X.blk s H scope (compEnvC scope cl C X.env) fp) elt (TrE F wx0 em)) (hv : t.inn (own.map (·.2)) = true := by rfl) (hs : ∀ x, foldedSetIterable iter X.env x = pure x := by intro _; rfl) :
    PE X (.ListComp elt [⟨tg, iter, ifs, 0⟩] scope pos) (TrN F wx (eLc t (own.map (·.2)) im tt em)) := PE.imp (pe_lc hc hN hi ok hg ht he hs) fun σ H Q h => lc_imp hv h
/-- name = [..] on one line -/
theorem s_lc {i : Nat} {y : Str} {py spos : Pos} (fz : Bool) (own : List (Str × Nat)) (hc : X.calm = true) (hN : X.N.Nodup) (hi : PI X tg iter (TrI F wx im)) (ok : BlkOk X.N X.env.scope scope own)
    (hg : ∀ (s : Shared) (H : Hp) (C : Addr) (cl : List (Str × Addr)) (fp : List Addr), PG (X.blk s H scope (compEnvC scope cl C X.env) fp) tg (TrG F t))
    (ht : ∀ (s : Shared) (H : Hp) (C : Addr) (cl : List (Str × Addr)) (fp : List Addr), PTs (X.blk s H scope (compEnvC scope cl C X.env) fp) ifs (TrT F wx0 tt))
    (he : ∀ (s : Shared) (H : Hp) (C : Addr) (cl : List (Str × Addr)) (fp : List Addr), PE (X.blk s H scope (compEnvC scope cl C X.env) fp) elt (TrE F wx0 em)) (hv : t.inn (own.map (·.2)) = true := by rfl) (hy : X.N[i]? = some y := by rfl) (hyl : X.env.scope.names.lookup y = some .local := by rfl)
    (hsw : swapsWith (.ListComp elt [⟨tg, iter, ifs, 0⟩] scope pos) (some (.Name y py)) spos.line X.env = pure true := by exact sw_true rfl rfl rfl rfl) (hs : ∀ x, foldedSetIterable iter X.env x = pure x := by intro _; rfl) :
    PS X (.Assign [.Name y py] (.ListComp elt [⟨tg, iter, ifs, 0⟩] scope pos) spos) (TrS F wx (if fz = true then sSet i (eLc t (own.map (·.2)) im tt em) else sSetN i (eLc t (own.map (·.2)) im tt em))) :=
  PS.imp (ps_setLc hc hN hy hyl hsw hi ok hg ht he hs) fun D σ H h => by
    have main : ∀ Q : VK, TrN F wx (eLc t (own.map (·.2)) im tt em) σ H Q → tLc (TrI F wx im) (TrG F t) (TrT F wx0 tt) (TrE F wx0 em) (own.map (·.2)) σ H Q := fun Q h => lc_imp hv h
    cases fz with
    | false => exact main _ (setN_imp h)
    | true =>
      refine main _ ?_
      obtain ⟨W, ρ, hp, g, h⟩ := set_imp h
      exact ⟨W, ρ, hp, g, Fin.freeze h⟩
end
end
end Z

/-! Z13: in; texts' methods; op= ; stores at places; raise, try -/
namespace Z
open PySem PySem.Spec PyProof.Rows L2

section
variable {F : Fr} {X : Cx} {wx : WX} {σ : L2.St} {G : Gl} {W W' W1 W2 : Wd} {H H' H1 H2 : Hp} {hp hp' : Hc} {E : Ends} {ρ : Rho}
/-! ### in -/
def flatD : D → Bool
  | .non | .bl _ | .int _ | .str _ => true
  | _ => false
def anyEq (x : D) (ds : List D) : Bool := ds.any fun z => z.eqv x
def inD (neg : Bool) (x y : D) (h : Hc) : R D := match x, unbox h y with
  | .str [c], .str z => .ok (.bl (if neg then !decide (c ∈ z) else decide (c ∈ z))) h
  | x, .lst ds => if pl 12 x && pls 11 ds then .ok (.bl (if neg then !anyEq x ds else anyEq x ds)) h else .bad
  | x, .tup ds => if flatD x && ds.all flatD then .ok (.bl (if neg then !anyEq x ds else anyEq x ds)) h else .bad
  | _, _ => .bad
def opIn := inD false
def opNotIn := inD true
def rInAll (K : PySem.W.Frag) (neg : Bool) : R2 := fun x y H Q => (∃ (c : Nat) (z : Str), x = .str ⟨#[c]⟩ ∧ y = .str z ∧ Q (.bl (if neg then !decide (c ∈ z.cps.toList) else decide (c ∈ z.cps.toList))) H) ∨
  (∃ d ds, Dp K H x d ∧ Dp K H y (.list ds) ∧ SeqAt.shaped d = true ∧ SeqAt.shaped (.list ds) = true ∧ Q (.bl (if neg then !ds.any fun z => PyData.eqv z d else ds.any fun z => PyData.eqv z d)) H) ∨ rIn K neg x y H Q
theorem o_in (hu : X.A.units + 65 < cLine) : OpR X (compareOp .In) (rInAll X.K false) := op_in_sign.or ((op_inD hu).or op_in_seq)
theorem o_notIn (hu : X.A.units + 65 < cLine) : OpR X (compareOp .NotIn) (rInAll X.K true) := op_notIn_sign.or ((op_notInD hu).or op_notIn_seq)
theorem any_toP {n m : Nat} {x : D} (h : pl n x = true) : ∀ {ds : List D}, pls m ds = true → (toPs ds).any (fun z => PyData.eqv z (toP x)) = anyEq x ds
  | [], _ => rfl
  | d :: ds, k => by
    simp only [pls, Bool.and_eq_true] at k
    simp only [toPs, List.any_cons, anyEq]
    rw [eqv_toP m n d x k.1 h]
    have := any_toP h k.2
    unfold anyEq at this
    rw [this]
theorem flat_rep {d : D} {v : V} (h : flatD d = true) (r : Rep G W H d v) : flatV v = true := by
  cases d with
  | non => cases r; rfl
  | bl _ => cases r; rfl
  | int _ => cases r; rfl
  | str _ => obtain ⟨rfl, _⟩ := r; rfl
  | _ => simp [flatD] at h
theorem flat_eq {x y : D} {v u : V} (hx : flatD x = true) (hy : flatD y = true) (rx : Rep G W H x v) (ry : Rep G W H y u) : eqV v u = x.eqv y := by
  cases x with
  | non => cases rx; cases y <;> first | (cases ry; rfl) | (obtain ⟨rfl, _⟩ := ry; rfl) | (simp [flatD] at hy)
  | bl b => cases rx; cases y <;> first | (cases ry; simp only [eqV, D.eqv]; first | rfl | (cases b <;> rfl)) | (obtain ⟨rfl, _⟩ := ry; rfl) | (simp [flatD] at hy)
  | int i => cases rx; cases y <;> first | (cases ry; simp only [eqV, D.eqv]; first | rfl | (rename_i b; cases b <;> rfl)) | (obtain ⟨rfl, _⟩ := ry; rfl) | (simp [flatD] at hy)
  | str s => obtain ⟨rfl, _⟩ := rx; cases y <;> first | (cases ry; rfl) | (obtain ⟨rfl, _⟩ := ry; simp only [eqV, D.eqv]; exact sbeq _ _) | (simp [flatD] at hy)
  | _ => simp [flatD] at hx
theorem flat_all : ∀ {ds : List D} {vs : List V}, ds.all flatD = true → Reps G W H ds vs → vs.all flatV = true
  | [], _, _, r => by cases r; rfl
  | d :: ds, _, h, ⟨v, r, e, q, t⟩ => by
    rw [List.all_cons, Bool.and_eq_true] at h
    rw [e, List.all_cons, flat_rep h.1 q, flat_all h.2 t]
    rfl
theorem flat_any {x : D} {v : V} (hx : flatD x = true) (rx : Rep G W H x v) : ∀ {ds : List D} {vs : List V}, ds.all flatD = true → Reps G W H ds vs → inV v vs = anyEq x ds
  | [], _, _, r => by cases r; rfl
  | d :: ds, _, h, ⟨u, r, e, q, t⟩ => by
    rw [List.all_cons, Bool.and_eq_true] at h
    rw [e]
    unfold inV anyEq
    rw [List.any_cons, List.any_cons, flat_eq h.1 hx q rx]
    have := flat_any hx rx h.2 t
    unfold inV anyEq at this
    rw [this]
theorem RepB.flat {d : D} {v : V} (h : flatD d = true) (r : RepB G W H d v) : Rep G W H d v := by
  cases d with
  | lst _ => simp [flatD] at h
  | dic _ => simp [flatD] at h
  | dit _ => simp [flatD] at h
  | _ => exact r
theorem pl_unbox {n : Nat} {x : D} (h : pl n x = true) : unbox hp x = x := by
  cases x <;> first | rfl | simp [pl] at h
theorem s_inD (hK : F.G.K = X.K) (neg : Bool) : OpS F (RepB F.G) (RepB F.G) (inD neg) (rInAll X.K neg) := by
  intro wx σ W H hp x y v u Q s rx ry h
  have uy := unbox_rep s ry
  unfold inD at h
  split at h
  · rename_i c z e1
    rw [e1] at uy
    obtain ⟨rfl, _⟩ := rx
    obtain ⟨rfl, _⟩ := uy
    exact .inl ⟨c, _, rfl, rfl, Fin.here h s rfl⟩
  · rename_i x' ds e1
    rw [e1] at uy
    split at h
    · rename_i hc
      rw [Bool.and_eq_true] at hc
      have ux := unbox_rep s rx
      rw [pl_unbox hc.1] at ux
      obtain ⟨a1, a2, a3⟩ := dp_of 12 _ v hc.1 ux
      have hl : pl 12 (.lst ds) = true := by simpa [pl] using hc.2
      obtain ⟨b1, b2, b3⟩ := dp_of 12 (.lst ds) u hl uy
      refine .inr (.inl ⟨_, toPs ds, hK ▸ a1, hK ▸ b1, shaped_of a2 a3, shaped_of b2 b3, ?_⟩)
      rw [any_toP hc.1 hc.2]
      exact Fin.here h s rfl
    · exact h.elim
  · rename_i x' ds e1
    rw [e1] at uy
    split at h
    · rename_i hc
      rw [Bool.and_eq_true] at hc
      obtain ⟨p, vs, rfl, t, rs⟩ := uy
      have rx' := RepB.flat hc.1 rx
      refine .inr (.inr ⟨p, vs, rfl, .inr (hK ▸ t.sq), flat_rep hc.1 rx', flat_all hc.2 rs, ?_⟩)
      rw [flat_any hc.1 rx' hc.2 rs]
      exact Fin.here h s rfl
    · exact h.elim
  · exact h.elim
/-! ### methods of texts with one argument -/
def isStr : D → Bool
  | .str _ => true
  | _ => false
def eM1 (b : D → D → Hc → R D) (o a : EM) : EM := fun ρ h => (o ρ h).bind fun x h1 => if isStr x then (a ρ h1).bind fun y h2 => b x y h2 else .bad
def M1S (F : Fr) (b : D → D → Hc → R D) (r : V → List V → Hp → VK → Prop) : Prop :=
  ∀ (wx : WX) (σ : L2.St) (W : Wd) (H : Hp) (hp : Hc) (x y : D) (v u : V) (Q : VK), St0 F.G W H hp → Rep F.G W H x v → RepB F.G W H y u → Fin F wx σ (Rep F.G) W H Q (b x y hp) → r v [u] H Q
theorem m1_imp {b : D → D → Hc → R D} {r : V → List V → Hp → VK → Prop} {eo ea : EM} (hs : M1S F b r) {Q : VK} (h : TrE F wx (eM1 b eo ea) σ H Q) : tM1 r (TrE F wx eo) (TrB F wx ea) σ H Q := by
  obtain ⟨W, ρ, hp, g, h⟩ := h
  refine ⟨W, ρ, hp, g, Fin.bind h fun x hp1 W1 v H1 x1 s1 r1 h1 => ?_⟩
  split at h1
  · rename_i hi
    cases x with
    | str z =>
      refine ⟨⟨_, r1.1⟩, W1, ρ, hp1, g.ext x1 s1, Fin.bind h1 fun y hp2 W2 u H2 x2 s2 r2 h2 => hs wx σ W2 H2 hp2 _ y v u Q s2 (r1.ext x2.toLk) r2 h2⟩
    | _ => simp [isStr] at hi
  · exact h1.elim
theorem e_m1 {id : String} {name : Str} {apos pos : Pos} {b : D → D → Hc → R D} {r : V → List V → Hp → VK → Prop} {o e : Expr} {eo ea : EM} (hs : M1S F b r) (slot : Slot "str" name id) (ty : typeOf (.builtin id) = pure (.type "method_descriptor")) (rule : MtR X id r) (ho : PE X o (TrE F wx eo)) (he : PE X e (TrB F wx ea))
    (hst : starEach [e] X.env = [(false, eval e X.env)] := by rfl) (hbase : attributeBase o name X.env (eval o X.env) = eval o X.env := by rfl) (hline : (apos.endLine == pos.line) = true := by rfl) : PE X (.Call (.Attribute o name apos) [e] [] pos) (TrE F wx (eM1 b eo ea)) :=
  PE.imp (pe_m1 slot ty rule ho he hst hbase hline) fun σ H Q h => m1_imp hs h
def strs? : List D → Option (List (List Nat))
  | [] => some []
  | .str s :: r => (strs? r).map (s :: ·)
  | _ :: _ => none
theorem strs_rep : ∀ {ds : List D} {vs : List V} {ns : List (List Nat)}, strs? ds = some ns → Reps G W H ds vs → vs = (ns.map SX.S).map V.str ∧ ∀ n ∈ ns, okS n
  | [], _, _, e, r => by cases r; cases e; exact ⟨rfl, fun n h => by simp at h⟩
  | .str s :: ds, _, _, e, ⟨v, r, rfl, h, t⟩ => by
    simp only [strs?, Option.map_eq_some_iff] at e
    obtain ⟨ns, e1, rfl⟩ := e
    obtain ⟨rfl, o⟩ := h
    obtain ⟨a, b⟩ := strs_rep e1 t
    rw [a]
    exact ⟨rfl, fun n h => by
      rcases List.mem_cons.mp h with z | z
      · rw [z]; exact o
      · exact b n z⟩
theorem okS_join {a : List Nat} (h : okS a) : ∀ {ps : List (List Nat)}, (∀ p ∈ ps, okS p) → okS (TL.joinL a ps)
  | [], _ => rfl
  | [p], k => k p (by simp)
  | p :: q :: r, k => okS_app (k p (by simp)) (okS_app h (okS_join h fun x hx => k x (List.mem_cons_of_mem _ hx)))
def mJoin (x y : D) (h : Hc) : R D := match x, unbox h y with
  | .str a, .lst ds => (match strs? ds with
    | some ps => if (ps.map List.length).sum + ps.length * a.length ≤ 16777216 then .ok (.str (TL.joinL a ps)) h else .bad
    | none => .bad)
  | .str a, .tup ds => (match strs? ds with
    | some ps => if (ps.map List.length).sum + ps.length * a.length ≤ 16777216 then .ok (.str (TL.joinL a ps)) h else .bad
    | none => .bad)
  | _, _ => .bad
def rJoin (K : PySem.W.Frag) : V → List V → Hp → VK → Prop := fun x xs H Q => ∃ a p, ∃ ys : List Str, x = .str a ∧ xs = [.ref p] ∧ (SqL K H p (ys.map V.str) ∨ SqT K H p (ys.map V.str)) ∧ (ys.map (·.length)).sum + ys.length * a.length ≤ 16777216 ∧ Q (.str (Txt.join a ys)) H
theorem sum_S (ps : List (List Nat)) : ((ps.map SX.S).map (·.length)).sum = (ps.map List.length).sum := by
  rw [List.map_map]
  congr 1
theorem s_join (hK : F.G.K = X.K) : M1S F mJoin (rJoin X.K) := by
  intro wx σ W H hp x y v u Q s rx ry h
  have uy := unbox_rep s ry
  unfold mJoin at h
  split at h
  · rename_i a ds e1
    rw [e1] at uy
    obtain ⟨rfl, o⟩ := rx
    obtain ⟨p, vs, rfl, t, rs⟩ := uy
    split at h
    · rename_i ps e2
      obtain ⟨rfl, ok⟩ := strs_rep e2 rs
      split at h
      · rename_i hl
        refine ⟨_, p, ps.map SX.S, rfl, rfl, .inl (SqL.of t), ?_, ?_⟩
        · rw [sum_S, List.length_map, str_len]; exact hl
        · rw [SX.join_S]; exact Fin.here h s ⟨rfl, okS_join o ok⟩
      · exact h.elim
    · exact h.elim
  · rename_i a ds e1
    rw [e1] at uy
    obtain ⟨rfl, o⟩ := rx
    obtain ⟨p, vs, rfl, t, rs⟩ := uy
    split at h
    · rename_i ps e2
      obtain ⟨rfl, ok⟩ := strs_rep e2 rs
      split at h
      · rename_i hl
        refine ⟨_, p, ps.map SX.S, rfl, rfl, .inr (hK ▸ t.sq), ?_, ?_⟩
        · rw [sum_S, List.length_map, str_len]; exact hl
        · rw [SX.join_S]; exact Fin.here h s ⟨rfl, okS_join o ok⟩
      · exact h.elim
    · exact h.elim
  · exact h.elim
/-- split by a text of small signs -/
def mSplit (x y : D) (h : Hc) : R D := match x, y with
  | .str a, .str b => if a.length + 2 ≤ 16777216 ∧ b ≠ [] ∧ b.all (· < 256) = true then .ok (.lst ((TL.spl b 0 [] a).map D.str)) h else .bad
  | _, _ => .bad
def rSplit : V → List V → Hp → VK → Prop := fun x xs H Q => ∃ a b, x = .str a ∧ xs = [.str b] ∧ (b.length == 0) = false ∧ a.length + 2 ≤ sizeLine ∧ rNewStrs (Txt.split a b) H Q
theorem okS_spl {b : List Nat} : ∀ (a : List Nat) (k : Nat) (acc : List Nat), okS a → okS acc → ∀ p ∈ TL.spl b k acc a, okS p
  | [], _, acc, _, o, p, hp => by simp only [TL.spl, List.mem_singleton] at hp; rw [hp]; exact o
  | c :: r, 0, acc, oa, o, p, hp => by
    have or_ : okS r := okS_sub oa fun x hx => List.mem_cons_of_mem _ hx
    simp only [TL.spl] at hp
    split at hp
    · rcases List.mem_cons.mp hp with z | z
      · rw [z]; exact o
      · exact okS_spl r _ [] or_ rfl p z
    · exact okS_spl r 0 _ or_ (okS_app o (okS_sub oa fun x hx => by simp at hx; rw [hx]; exact List.mem_cons_self)) p hp
  | c :: r, k + 1, acc, oa, o, p, hp => by
    simp only [TL.spl] at hp
    exact okS_spl r k acc (okS_sub oa fun x hx => List.mem_cons_of_mem _ hx) o p hp
theorem reps_strs : ∀ {ps : List (List Nat)}, (∀ p ∈ ps, okS p) → Reps G W H (ps.map D.str) ((ps.map SX.S).map V.str)
  | [], _ => rfl
  | p :: ps, h => ⟨_, _, rfl, ⟨rfl, h p (by simp)⟩, reps_strs fun q hq => h q (List.mem_cons_of_mem _ hq)⟩
theorem s_split : M1S F mSplit rSplit := by
  intro wx σ W H hp x y v u Q s rx ry h
  unfold mSplit at h
  split at h
  · rename_i a b
    obtain ⟨rfl, o⟩ := rx
    obtain ⟨rfl, o2⟩ := ry
    split at h
    · rename_i hc
      refine ⟨_, _, rfl, rfl, ?_, ?_, fun p hp0 => ?_⟩
      · rw [str_len]
        have : b.length ≠ 0 := fun z => hc.2.1 (List.eq_nil_of_length_eq_zero z)
        simpa using this
      · rw [str_len]; exact lim_ok hc.1
      · show Q (.ref p) (upd H p (.lst ((Txt.split (SX.S a) (SX.S b)).map V.str)))
        rw [SX.split_S hc.2.1 hc.2.2]
        exact Fin.mkLst s hp0 (reps_strs (okS_spl a 0 [] o rfl)) h
    · exact h.elim
  · exact h.elim
/-! ### name op= e -/
def sAug (i : Nat) (op : D → D → Hc → R D) (em : EM) : SM := fun ρ h => match ρ[i]? with
  | some (.v x) => (em ρ h).toS ρ fun y h1 => (op x y h1).toS ρ fun z h2 => .nx (ρ.set i (.v z)) h2
  | _ => .bad
theorem aug_imp {i : Nat} {op : D → D → Hc → R D} {em : EM} {r : R2} {D : Ends} (hs : OpS F (Rep F.G) (Rep F.G) op r) (h : TrS F wx (sAug i op em) D σ H) : tAug i (TrE F wx em) r D σ H := by
  obtain ⟨W, ρ, hp, g, h⟩ := h
  unfold sAug at h
  split at h
  · rename_i x e
    obtain ⟨ov, e2, v, ev, rv⟩ := g.slot e
    subst ev
    refine ⟨v, e2, W, ρ, hp, g, FinS.bind g h fun y hp1 W1 u H1 x1 g1 r1 h1 => ?_⟩
    refine hs wx σ W1 H1 hp1 x y v u _ g1.st (rv.ext x1.toLk) r1 (FinS.bind g1 h1 fun z hp2 W2 w H2 x2 g2 r2 h2 => ?_)
    exact h2 W2 _ H2 (g2.set r2) (Lk.refl _ _)
  · exact h.elim
theorem s_aug {i : Nat} {x : Str} {e : Expr} {em : EM} {op : D → D → Hc → R D} {o : Operator} {r : R2} {pos pos' : Pos} (hN : X.N.Nodup) (ho : OpR X (inplaceOp o) r) (hs : OpS F (Rep F.G) (Rep F.G) op r) (he : PE X e (TrE F wx em)) (hi : X.N[i]? = some x := by rfl) (hx : Loc X.env.scope x := by first | exact .inl rfl | exact .inr rfl)
    (hf : X.fn x = true ∨ X.env.scope.names.lookup x = some .local := by first | exact .inr rfl | exact .inl rfl) : PS X (.AugAssign (.Name x pos') o e pos) (TrS F wx (sAug i op em)) :=
  PS.imp (ps_aug hN hi hx he ho hf) fun D σ H h => aug_imp hs h
def opIAdd (x y : D) (h : Hc) : R D := match x, y with
  | .int i, .int j => .ok (.int (i + j)) h
  | .str a, .str b => if a.length + b.length ≤ 16777216 then .ok (.str (a ++ b)) h else .bad
  | _, _ => .bad
def rIAdd : R2 := fun x y H Q => (rI0 (fun i j => .int (i + j)) x y H Q) ∨ ∃ i j, x = .str i ∧ y = .str j ∧ i.length + j.length ≤ sizeLine ∧ Q (.str (i ++ j)) H
theorem o_iadd : OpR X (inplaceOp .Add) rIAdd := iop_add.or iop_add_str
theorem s_iadd : OpS F (Rep F.G) (Rep F.G) opIAdd rIAdd := by
  intro wx σ W H hp x y v u Q s rx ry h
  unfold opIAdd at h
  split at h
  · cases rx; cases ry
    exact .inl ⟨_, _, rfl, rfl, Fin.here h s rfl⟩
  · obtain ⟨rfl, o1⟩ := rx
    obtain ⟨rfl, o2⟩ := ry
    split at h
    · rename_i hl
      refine .inr ⟨_, _, rfl, rfl, ?_, ?_⟩
      · rw [str_len, str_len]; exact lim_ok hl
      · rw [str_app]; exact Fin.here h s ⟨rfl, okS_app o1 o2⟩
    · exact h.elim
  · exact h.elim
theorem s_isub : OpS F (Rep F.G) (Rep F.G) opSub (rI0 fun i j => .int (i - j)) := by
  intro wx σ W H hp x y v u Q s rx ry h
  exact s_sub wx σ W H hp x y v u Q s (rx.toB s) (ry.toB s) h
def opIMul (x y : D) (h : Hc) : R D := match x, y with
  | .int i, .int j => if (-(2 ^ 64) < i ∧ i < 2 ^ 64) ∨ (-(2 ^ 64) < j ∧ j < 2 ^ 64) then .ok (.int (i * j)) h else .bad
  | _, _ => .bad
theorem s_imul : OpS F (Rep F.G) (Rep F.G) opIMul (rI CMul fun i j => .int (i * j)) := by
  intro wx σ W H hp x y v u Q s rx ry h
  unfold opIMul at h
  split at h
  · cases rx; cases ry
    split at h
    · rename_i hc
      exact ⟨_, _, rfl, rfl, hc, Fin.here h s rfl⟩
    · exact h.elim
  · exact h.elim
/-! ### xs += ys, in place -/
def itemsL (h : Hc) (d : D) : Option (List D) := match unbox h d with
  | .lst ds => some ds
  | _ => none
def sExt (i : Nat) (em : EM) : SM := fun ρ h => if isL (held ρ h i) then (em ρ h).toS ρ fun y h1 => (match held ρ h1 i, itemsL h1 y with
  | .lst ds, some es => if ds.length + es.length ≤ 16777216 then put ρ h1 i (.lst (ds ++ es)) fun ρ' h' => .nx ρ' h' else .bad
  | _, _ => .bad) else .bad
theorem set_same {i : Nat} {v : Option V} (h : σ[i]? = some v) : σ.set i v = σ := by
  apply List.ext_getElem?
  intro k
  by_cases z : i = k
  · subst z; rw [List.getElem?_set_self (List.getElem?_eq_some_iff.mp h).1, h]
  · rw [List.getElem?_set_ne z]
theorem ext_imp {i : Nat} {em : EM} {D : Ends} (h : TrS F wx (sExt i em) D σ H) : tAug i (TrB F wx em) rExt2 D σ H := by
  obtain ⟨W, ρ, hp, g, h⟩ := h
  unfold sExt at h
  split at h
  · rename_i hl
    obtain ⟨a, ea, _⟩ := held_ty g hl
    refine ⟨_, ea, W, ρ, hp, g, FinS.bind g h fun y hp1 W1 u H1 x1 g1 r1 h1 => ?_⟩
    split at h1
    · rename_i ds es eh ei
      split at h1
      · rename_i hz
        obtain ⟨a', ea', cr, nf, nxt⟩ := g1.held (wx := wx) (by rw [eh]; intro z; cases z)
        rw [ea] at ea'; cases ea'
        rw [eh] at cr
        obtain ⟨vs, e, rv⟩ := cr
        unfold itemsL at ei
        split at ei
        · rename_i es' eu
          cases ei
          have ru := unbox_rep g1.st r1
          rw [eu] at ru
          obtain ⟨b, us, rfl, e2, ru⟩ := ru
          refine ⟨a, b, vs, us, rfl, rfl, e, e2, ?_, ?_⟩
          · rw [← rv.length, ← ru.length]; exact lim_ok hz
          · have l := lk_out (H := H1) (o' := .lst (vs ++ us)) nf fun φ z => by rw [e] at z; cases z
            obtain ⟨ρ', hp', g', l', f'⟩ := nxt (.lst (ds ++ es)) (.lst (vs ++ us)) _ D ⟨_, upd_same, (rv.append ru).ext l⟩ h1
            show D.nx (σ.set i (some (.ref a))) _
            rw [set_same ea]
            exact f' W1 σ _ g' (Lk.refl _ _)
        · cases ei
      · exact h1.elim
    · exact h1.elim
  · exact h.elim
theorem s_ext {i : Nat} {x : Str} {e : Expr} {em : EM} {pos pos' : Pos} (hN : X.N.Nodup) (he : PE X e (TrB F wx em)) (hi : X.N[i]? = some x := by rfl) (hx : Loc X.env.scope x := by first | exact .inl rfl | exact .inr rfl)
    (hf : X.fn x = true ∨ X.env.scope.names.lookup x = some .local := by first | exact .inr rfl | exact .inl rfl) : PS X (.AugAssign (.Name x pos') .Add e pos) (TrS F wx (sExt i em)) :=
  PS.imp (ps_aug hN hi hx he iop_ext hf) fun D σ H h => ext_imp h
/-! ### x_i[k] = e -/
def putAt (ρ : Rho) (h : Hc) (i : Nat) (k : D) (v : D) (c : Rho → Hc → O) : O := match held ρ h i, k with
  | .lst ds, .int n => (match ixN ds.length n with
    | some j => put ρ h i (.lst (ds.set j v)) c
    | none => .bad)
  | _, _ => .bad
theorem putAt_imp {i : Nat} {k d : D} {kv v : V} {D : Ends} {c : Rho → Hc → O} {Q : Hp → Prop} (g : Gd F W ρ hp σ H) (rk : Rep F.G W H k kv) (rv : Rep F.G W H d v) {a : Addr} (ea : σ[i]? = some (some (.ref a))) (h : FinS F wx W H D (putAt ρ hp i k d c))
    (nx : ∀ ρ' hp' H', Gd F W ρ' hp' σ H' → Lk W H W H' → FinS F wx W H' D (c ρ' hp') → Q H') : rSetL (.ref a) kv v H Q := by
  unfold putAt at h
  split at h
  · rename_i ds n eh
    split at h
    · rename_i j ej
      obtain ⟨a', ea', cr, nf, nxt⟩ := g.held (wx := wx) (by rw [eh]; intro z; cases z)
      rw [ea] at ea'; cases ea'
      rw [eh] at cr
      obtain ⟨vs, e, rs⟩ := cr
      cases rk
      refine ⟨a, vs, n, j, rfl, rfl, e, by rw [← rs.length]; exact ej, ?_⟩
      have l := lk_out (H := H) (o' := .lst (vs.set j v)) nf fun φ z => by rw [e] at z; cases z
      obtain ⟨ρ', hp', g', l', f'⟩ := nxt (.lst (ds.set j d)) (.lst (vs.set j v)) c D ⟨_, upd_same, (rs.set j rv).ext l⟩ h
      exact nx ρ' hp' _ g' l' f'
    · exact h.elim
  · exact h.elim
/-- value, index; the object is a name -/
def sPut (i : Nat) (ek ev : EM) : SM := fun ρ h => if isL (held ρ h i) then (ev ρ h).toS ρ fun v h1 => (ek ρ h1).toS ρ fun k h2 => putAt ρ h2 i k v fun ρ' h' => .nx ρ' h' else .bad
theorem sput_imp {i : Nat} {ek ev : EM} {D : Ends} (h : TrS F wx (sPut i ek ev) D σ H) : tAsg (TrE F wx ev) (gSub (tVar i) (TrE F wx ek) rSetL) D σ H := by
  obtain ⟨W, ρ, hp, g, h⟩ := h
  unfold sPut at h
  split at h
  · rename_i hl
    obtain ⟨a, ea, _⟩ := held_ty g hl
    refine ⟨W, ρ, hp, g, FinS.bind g h fun v hp1 W1 u H1 x1 g1 r1 h1 => ⟨_, ea, W1, ρ, hp1, g1, FinS.bind g1 h1 fun k hp2 W2 ku H2 x2 g2 r2 h2 => ?_⟩⟩
    exact putAt_imp g2 r2 (r1.ext x2.toLk) ea h2 fun ρ' hp' H' g' l' f' => f' W2 σ H' g' (Lk.refl _ _)
  · exact h.elim
theorem s_put {i : Nat} {x : Str} {k e : Expr} {ek ev : EM} {p q pos : Pos} (hk : PE X k (TrE F wx ek)) (he : PE X e (TrE F wx ev)) (hN : X.N[i]? = some x := by rfl) (hv : Vis X.env.scope x := by first | exact Or.inl rfl | exact Or.inr (Or.inl rfl) | exact Or.inr (Or.inr rfl)) (hd : (x == ("__debug__" : Str)) = false := by decide) (hcd : (x == ("__classdict__" : Str)) = false := by decide)
    (ha : ∀ v, assign (.Subscript (.Name x p) k q) X.env v = (do
      let ov ← holding [v] (eval (.Name x p) X.env)
      let iv ← holding [v, ov] (eval k X.env)
      standAt q
      holding [v, ov, iv] (setItem ov iv v)
      release [v, ov, iv] []) := by intro _; rfl)
    (hs : swapsWithSole [.Subscript (.Name x p) k q] e pos.line X.env = pure false := by rfl) (hw : swappedStores [.Subscript (.Name x p) k q] e X.env = pure none := by rfl)
    (h1 : (assignEach [.Subscript (.Name x p) k q] X.env).map (·.2) = [assign (.Subscript (.Name x p) k q) X.env] := by rfl) : PS X (.Assign [.Subscript (.Name x p) k q] e pos) (TrS F wx (sPut i ek ev)) :=
  PS.imp (ps_asg he (pg_sub (pe_var hN hv hd hcd) hk set_list ha) hs hw h1) fun D σ H h => sput_imp h
/-! ### x_i[k] op= e -/
def sPutAug (i : Nat) (op : D → D → Hc → R D) (ek ev : EM) : SM := fun ρ h => if isL (held ρ h i) then (ek ρ h).toS ρ fun k h1 => (opIx (held ρ h1 i) k h1).toS ρ fun x h2 => (ev ρ h2).toS ρ fun y h3 => (op x y h3).toS ρ fun z h4 => putAt ρ h4 i k z fun ρ' h' => .nx ρ' h' else .bad
theorem get_list : PGet X (rIxL X.K) := by
  intro pins s σ H o i ov iv Q I ro ri h
  obtain ⟨p, xs, k, z, rfl, rfl, hq, he, q⟩ := h
  cases ro
  obtain ⟨t, rfl⟩ := ri
  obtain ⟨its, r, pl, hz⟩ := I.list hq
  obtain ⟨j, h1, h2, h3, h4, h5⟩ := atI_get he
  obtain ⟨w, ew, rw'⟩ := r.get h2
  have hl := r.length
  have hn := line63
  have fin : EP X pins σ Q w s := ⟨z, H, I, rw', q⟩
  by_cases h0 : 0 ≤ k
  · have hj : k.toNat = j := by
      rw [seqIndex_of h0 h5] at h1
      exact Option.some.inj h1
    exact getItem_listL pl.isList h0 (by omega) (by rw [hj]; exact ew) fin
  · have hj : (k + (its.toArray.size : Int)).toNat = j := by
      rw [seqIndex_neg (by omega) h4] at h1
      rw [List.size_toArray, ← hl]
      exact Option.some.inj h1
    exact wpAny_getItem_list_neg pl.isList (by omega) (by rw [List.size_toArray] <;> omega) (by omega) (by rw [hj]; simpa using ew) fin
theorem putAug_imp {i : Nat} {op : D → D → Hc → R D} {ek ev : EM} {r : R2} {D : Ends} (hK : F.G.K = X.K) (hs : OpS F (Rep F.G) (Rep F.G) op r) (h : TrS F wx (sPutAug i op ek ev) D σ H) : tAugS (tVar i) (TrE F wx ek) (TrE F wx ev) (rIxL X.K) r rSetL D σ H := by
  obtain ⟨W, ρ, hp, g, h⟩ := h
  unfold sPutAug at h
  split at h
  · rename_i hl
    obtain ⟨a, ea, _⟩ := held_ty g hl
    refine ⟨_, ea, W, ρ, hp, g, FinS.bind g h fun k hp1 W1 kv H1 x1 g1 r1 h1 => ?_⟩
    unfold opIx at h1
    split at h1
    · rename_i ds n eu
      cases r1
      split at h1
      · rename_i d ed
        obtain ⟨a', ea', cr, nf, _⟩ := g1.held (wx := wx) (by intro z; rw [z] at eu; cases eu)
        rw [ea] at ea'; cases ea'
        have eh : held ρ hp1 i = .lst ds := by
          cases q : held ρ hp1 i with
          | lst es => rw [q] at eu; exact eu
          | ref m => rw [q] at cr; exact cr.elim
          | tup es => rw [q] at cr; exact cr.elim
          | dic es => rw [q] at eu; cases eu
          | dit es => rw [q] at eu; cases eu
          | non => rw [q] at cr; exact cr.elim
          | bl _ => rw [q] at cr; exact cr.elim
          | int _ => rw [q] at cr; exact cr.elim
          | str _ => rw [q] at cr; exact cr.elim
          | lam _ => rw [q] at cr; exact cr.elim
          | scr _ => rw [q] at cr; exact cr.elim
        rw [eh] at cr
        obtain ⟨vs, e, rs⟩ := cr
        obtain ⟨v, h2, h3⟩ := atI_rep rs ed
        refine ⟨a, vs, n, v, rfl, rfl, SqL.of e, h2, W1, ρ, hp1, g1, FinS.bind g1 h1 fun y hp2 W2 u H2 x2 g2 r2 q2 => ?_⟩
        refine hs wx σ W2 H2 hp2 d y v u _ g2.st (h3.ext x2.toLk) r2 (FinS.bind g2 q2 fun z hp3 W3 w H3 x3 g3 r3 q3 => ?_)
        exact putAt_imp (k := .int n) g3 rfl r3 ea q3 fun ρ' hp' H' g' l' f' => f' W3 σ H' g' (Lk.refl _ _)
      · exact h1.elim
    · rename_i ds n eu
      exfalso
      obtain ⟨a', ea', cr, nf, _⟩ := g1.held (wx := wx) (by intro z; rw [z] at eu; cases eu)
      cases q : held ρ hp1 i with
      | lst es => rw [q] at eu; cases eu
      | dic es => rw [q] at eu; cases eu
      | dit es => rw [q] at eu; cases eu
      | _ => rw [q] at cr; exact cr
    · rename_i ds n eu
      exfalso
      obtain ⟨a', ea', cr, nf, _⟩ := g1.held (wx := wx) (by intro z; rw [z] at eu; cases eu)
      cases q : held ρ hp1 i with
      | lst es => rw [q] at eu; cases eu
      | dic es => rw [q] at eu; cases eu
      | dit es => rw [q] at eu; cases eu
      | _ => rw [q] at cr; exact cr
    · exact h1.elim
  · exact h.elim
theorem s_putAug {i : Nat} {x : Str} {k e : Expr} {ek ev : EM} {o : Operator} {op : D → D → Hc → R D} {r : R2} {p q pos : Pos} (hK : F.G.K = X.K) (ho : OpR X (inplaceOp o) r) (hs : OpS F (Rep F.G) (Rep F.G) op r) (hk : PE X k (TrE F wx ek)) (he : PE X e (TrE F wx ev)) (hN : X.N[i]? = some x := by rfl) (hv : Vis X.env.scope x := by first | exact Or.inl rfl | exact Or.inr (Or.inl rfl) | exact Or.inr (Or.inr rfl)) (hd : (x == ("__debug__" : Str)) = false := by decide) (hcd : (x == ("__classdict__" : Str)) = false := by decide)
    (ha : ∀ ov iv new, augStore k ov iv new = (do holding [new, ov, iv] (setItem ov iv new); release [new, ov, iv] []; pure .next) := by intros; rfl) : PS X (.AugAssign (.Subscript (.Name x p) k q) o e pos) (TrS F wx (sPutAug i op ek ev)) :=
  PS.imp (ps_augS (pe_var hN hv hd hcd) hk get_list he ho set_list ha) fun D σ H h => putAug_imp hK hs h
/-! ### raise -/
def sRaise (c : Nat) : SM := fun ρ h => .ex c ρ h
theorem s_raise {e : Expr} {c : Nat} {pos : Pos} (hc : X.calm = true) (tk : Takes X wx) (he : PMk X e (fun _ H Q => Q (.ref (F.G.ca c)) none H)) : PS X (.Raise (some e) none pos) (TrS F wx (sRaise c)) :=
  PS.imp (ps_raise hc tk he) fun D σ H ⟨W, ρ, hp, g, h⟩ => h W σ H g (Lk.refl _ _)
/-! ### try -/
def O.nox : O → O
  | .ex _ _ _ => .bad
  | o => o
def sTry (sub : Nat → Option Bool) (b hd : SM) : SM := fun ρ h => match b ρ h with
  | .ex c ρ' h' => (match sub c with
    | some true => (hd ρ' h').nox
    | some false => .ex c ρ' h'
    | none => .bad)
  | o => o
theorem FinS.nox0 {D : Ends} {o : O} (h : FinS F wx W H D o.nox) : FinS F wx0 W H D o := by
  cases o with
  | ex c ρ hp => exact h.elim
  | nx _ _ => exact h
  | bk _ _ => exact h
  | ct _ _ => exact h
  | rt _ _ => exact h
  | bad => exact h
theorem try_imp {sub : Nat → Option Bool} {c : Value} {b hd : SM} {D : Ends} (hsub : ∀ n b, sub n = some b → PySem.W.exmOne X.K (.ref (F.G.ca n)) c = some b) (h : TrS F wx (sTry sub b hd) D σ H) :
    TrS F (wOnly X.K c (fun _ _ _ => TrS F wx0 hd) wx D) b D σ H := by
  obtain ⟨W, ρ, hp, g, h⟩ := h
  refine ⟨W, ρ, hp, g, ?_⟩
  unfold sTry at h
  revert h
  cases b ρ hp with
  | ex n ρ' hp' =>
    intro h W' σ' H' g' l'
    have h : FinS F wx W H D (match sub n with | some true => (hd ρ' hp').nox | some false => .ex n ρ' hp' | none => .bad) := h
    split at h
    · rename_i es
      exact ⟨true, hsub n true es, fun _ a _ => ⟨W', ρ', hp', g', FinS.nox0 (FinS.lk l' h)⟩, fun z => by cases z⟩
    · rename_i es
      exact ⟨false, hsub n false es, fun z => (by cases z), fun _ => h W' σ' H' g' l'⟩
    · exact h.elim
  | nx _ _ => exact fun h => h
  | bk _ _ => exact fun h => h
  | ct _ _ => exact fun h => h
  | rt _ _ => exact fun h => h
  | bad => exact fun h => h
theorem s_try {x : Str} {c : Value} {body suite : List Stmt} {b₀ : Stmt} {np pos pos' : Pos} {sub : Nat → Option Bool} {b hd : SM} (hs : X.stack = X.env :: X.outer) (hf : X.env.frame = some X.env.locals) (hc : Names X x c) (tk : Takes X wx)
    (hsub : ∀ n b, sub n = some b → PySem.W.exmOne X.K (.ref (F.G.ca n)) c = some b)
    (hb : ∀ (W : WX) (pn : List (Addr × Obj)) (xe : Value → Shared → Prop), Takes (X.tr pn xe) W → PassesOwn (model X.prog X.w) X.A X.env xe → PSs (X.tr pn xe) body (TrS F W b))
    (hsu : ∀ (a : Addr) (oe : Obj) (pn : List (Addr × Obj)), PSs (X.suite a ((a, oe) :: pn)) (b₀ :: suite) (TrS F wx0 hd)) :
    PS X (.Try body [.ExceptHandler (some (.Name x np)) none (b₀ :: suite) pos'] [] [] pos) (TrS F wx (sTry sub b hd)) :=
  PS.imp (ps_try_only (tb := fun W => TrS F W b) (ts := fun _ _ _ => TrS F wx0 hd) hs hf hc tk hb fun a oe cls d pn _ _ => hsu a oe pn) fun D σ H h => try_imp hsub h
end
end Z

/-! Z14: defs -/
namespace Z
open PySem PySem.Spec PyProof.Rows L2

def startR (n : Nat) (ds : List D) : Rho := ds.map Sl.v ++ List.replicate (n - ds.length) .u
def O.toR : O → R D
  | .nx _ h => .ok .non h
  | .rt d h => .ok d h
  | .ex c _ h => .ex c h
  | _ => .bad
/-- a def: so many slots, its body -/
def mkF (n : Nat) (sm : SM) : FM := fun ds h => (sm (startR n ds) h).toR
def FinF (G : Gl) (W : Wd) (H : Hp) (Q : VK) (E : XK) : R D → Prop
  | .ok d hp' => ∀ W' v H', Ext W H W' H' → St0 G W' H' hp' → Rep G W' H' d v → Q v H'
  | .ex c hp' => ∀ W' H', Ext W H W' H' → St0 G W' H' hp' → E (.ref (G.ca c)) none H'
  | .bad => False
def spOf (G : Gl) (f : FM) (n : Nat) : Sp := fun vs H Q E => ∃ W hp ds, St0 G W H hp ∧ Reps G W H ds vs ∧ ds.length = n ∧ FinF G W H Q E (f ds hp)
theorem spOf.len {G : Gl} {f : FM} {n : Nat} {vs : List V} {H : Hp} {Q : VK} {E : XK} (h : spOf G f n vs H Q E) : vs.length = n := by
  obtain ⟨W, hp, ds, s, r, hl, _⟩ := h
  rw [← r.length, hl]
theorem start_gd {G : Gl} {W : Wd} {H : Hp} {hp : Hc} {ds : List D} {vs : List V} {N : List Str} (s : St0 G W H hp) (r : Reps G W H ds vs) : Gd ⟨G, W, H⟩ W (startR N.length ds) hp (L2.start N vs) H where
  x0 := Ext.refl W H
  st := s
  env := {
    len := by
      unfold startR L2.start
      rw [List.length_append, List.length_append, List.length_map, List.length_map, List.length_replicate, List.length_replicate, r.length]
    at_ := fun i sl ov h1 h2 => by
      unfold startR at h1
      unfold L2.start at h2
      by_cases hi : i < ds.length
      · rw [List.getElem?_append_left (by simpa using hi), List.getElem?_map] at h1
        rw [List.getElem?_append_left (by rw [List.length_map, ← r.length]; exact hi), List.getElem?_map] at h2
        rw [List.getElem?_eq_getElem hi] at h1
        cases h1
        obtain ⟨v, e, rv⟩ := r.get (List.getElem?_eq_getElem hi)
        rw [e] at h2
        cases h2
        exact ⟨v, rfl, rv⟩
      · rw [List.getElem?_append_right (by simpa using hi), List.getElem?_replicate] at h1
        split at h1
        · cases h1; trivial
        · cases h1
    ap := fun i j a h1 h2 => by
      obtain ⟨⟨d, h1⟩, _⟩ := h1
      exfalso
      unfold startR at h1
      by_cases hi : i < ds.length
      · rw [List.getElem?_append_left (by simpa using hi), List.getElem?_map, List.getElem?_eq_getElem hi] at h1
        cases h1
      · rw [List.getElem?_append_right (by simpa using hi), List.getElem?_replicate] at h1
        split at h1 <;> cases h1
    nw := fun i a h1 => by
      obtain ⟨⟨d, h1⟩, _⟩ := h1
      exfalso
      unfold startR at h1
      by_cases hi : i < ds.length
      · rw [List.getElem?_append_left (by simpa using hi), List.getElem?_map, List.getElem?_eq_getElem hi] at h1
        cases h1
      · rw [List.getElem?_append_right (by simpa using hi), List.getElem?_replicate] at h1
        split at h1 <;> cases h1 }
abbrev wxE (E : XK) : WX := fun cls d _ H' => E cls d H'
section
variable {P : Program} {w : World} {K : PySem.W.Frag} {mg : Str → Option Value} {base : Heap} {x qual : Str} {params : Arguments} {body : List Stmt} {scope : Scope} {f : Addr} {fd : FuncData} {G : Gl}
/-- THE RULE: a def by its body's mirror -/
theorem fn_ok {N ps : List Str} {k : Nat} {sm : SM} (F : FunD K x qual params body scope [] [] f fd) (S : FnScope N ps scope)
    (hbody : ∀ (W : Wd) (c : Addr) (A : Around) (outer : List Env) (s : Shared) (H : Hp) (E : XK), fd.code = .ref c → Room k (A.deeper (envOfC qual scope s.heap.objs.size f (.ref c))) →
      PSs (cxOf (L2.CX P w) P w K mg base N qual scope f (.ref c) A outer s H E) body (TrS ⟨G, W, H⟩ (wxE E) sm)) : FnOk P w K mg base (L2.CX P w) (k + 1) f fd ps (spOf G (mkF N.length sm) ps.length) := by
  obtain ⟨oc, od, dV, kV, doc, pm, an, cdv, ct, osl, rfl, lk, hcd, _, _⟩ := F.ex
  obtain ⟨c, rfl⟩ := He.codeIn_ref hcd
  refine fn_of lk hcd S (fun vs H Q E h => h.len) fun A outer s H vs Q E hr hsp => ?_
  obtain ⟨W, hp, ds, st, r, hl, q⟩ := hsp
  refine ⟨_, hbody W c A outer s H E rfl hr, W, _, hp, start_gd st r, ?_⟩
  unfold mkF at q
  revert q
  cases sm (startR N.length ds) hp with
  | nx ρ h => exact fun q W' σ' H' g _ => q W' .non H' g.x0 g.st rfl
  | rt d h => exact fun q => q
  | ex c ρ h => exact fun q W' σ' H' g _ => q W' H' g.x0 g.st
  | bk ρ h => exact fun q => q.elim
  | ct ρ h => exact fun q => q.elim
  | bad => exact fun q => q
theorem takes_fn {N : List Str} {cd : Value} {A : Around} {outer : List Env} {s : Shared} {H : Hp} {E : XK} : Takes (cxOf (L2.CX P w) P w K mg base N qual scope f cd A outer s H E) (wxE E) := takes_of rfl rfl rfl rfl
theorem owns_fn {N : List Str} {cd : Value} {A : Around} {outer : List Env} {s : Shared} {H : Hp} {E : XK} : PassesOwn (model P w) (cxOf (L2.CX P w) P w K mg base N qual scope f cd A outer s H E).A (cxOf (L2.CX P w) P w K mg base N qual scope f cd A outer s H E).env (cxOf (L2.CX P w) P w K mg base N qual scope f cd A outer s H E).xe :=
  passes_of (X := cxOf (L2.CX P w) P w K mg base N qual scope f cd A outer s H E) (K := fun e s'' => L2.CX P w outer H s E e s'') rfl
/-- what a caller knows of a def -/
structure FnZ (P : Program) (w : World) (K : PySem.W.Frag) (mg : Str → Option Value) (base : Heap) (G : Gl) (k : Nat) (x : Str) (n : Nat) (m : FM) : Prop where
  ex : ∃ (f : Addr) (fd : FuncData) (ps : List Str), ps.length = n ∧ FnOk P w K mg base (L2.CX P w) k f fd ps (spOf G m n) ∧ mg x = some (.ref f) ∧ PySem.W.keepIn K (.ref f) = true ∧ Binds K fd ps []
end
def eCall (n : Nat) (m : FM) (am : AM) : EM := fun ρ h => (am ρ h).bind fun xs h1 => if xs.length = n then m xs h1 else .bad
def eBad : EM := fun _ _ => .bad
section
variable {F : Fr} {X : Cx} {wx : WX} {σ : L2.St} {k k' n : Nat} {x : Str} {m : FM} {p pos : Pos} {e : Expr} {es : List Expr} {am : AM}
theorem e_never {e : Expr} : PE X e (TrE F wx eBad) := ⟨fun p s σ H Q I ⟨W, ρ, hp, g, h⟩ => h.elim⟩
theorem call_imp {Q : VK} {H : Hp} (h : TrE F wx (eCall n m am) σ H Q) : tCallS (spOf F.G m n) (WE wx) (TrA F wx am) σ H Q := by
  obtain ⟨W, ρ, hp, g, h⟩ := h
  refine ⟨W, ρ, hp, g, Fin.bind h fun xs hp1 W1 vs H1 x1 s1 r1 h1 => ?_⟩
  split at h1
  · rename_i hl
    refine ⟨W1, hp1, xs, s1, r1, hl, ?_⟩
    cases hz : m xs hp1 with
    | ok d h2 => rw [hz] at h1; exact h1
    | ex c h2 => rw [hz] at h1; exact h1
    | bad => rw [hz] at h1; exact h1
  · exact h1.elim
theorem e_call (C : FnZ X.prog X.w X.K X.mg X.base F.G k x n m) (hr : Room k' X.A) (tk : Takes X wx) (ha : PA X (e :: es) (TrA F wx am)) (hk : k ≤ k' := by decide) (hg : L2.Gl X x := by rfl)
    (hdb : (x == ("__debug__" : Str)) = false := by decide) (he : starEach (e :: es) X.env = (false, eval e X.env) :: starEach es X.env := by rfl) (hpl : (backTo pos (starEach es X.env)).any (·.1) = false := by rfl) : PE X (.Call (.Name x p) (e :: es) [] pos) (TrE F wx (eCall n m am)) := by
  obtain ⟨f, fd, ps, hl, ok, hm, kp, bd⟩ := C.ex
  exact PE.imp (pe_callS ok (hr.mono hk) hg hm kp bd (passAt tk) ha hdb he hpl) fun σ H Q h => call_imp h
end
end Z

/-! Z15: a lambda handed to the def that catches what it raises -/
namespace Z
open PySem PySem.Spec PyProof.Rows L2

section
variable {F : Fr} {X : Cx} {wx : WX} {pins : List (Addr × Obj)} {σ : L2.St} {G : Gl} {W W' : Wd} {H H' : Hp} {hp : Hc} {s : Shared} {ρ : Rho}
/-- a code object is noted in the table at P -/
structure Noted (P c : Addr) (q : Str) (H H1 : Hp) : Prop where
  ex : ∃ ps more : Array Value, H P = some (.tbl ps) ∧ H c = none ∧ H1 = upd (upd H P (.tbl (ps ++ more))) c (LamX.CodeO c q)
  tab : LamX.TabS H1 P q
theorem Noted.ext {P c : Addr} {q : Str} {H1 : Hp} (n : Noted P c q H H1) (s : St0 G W H hp) (hu : ∀ p ∈ G.tl, p.1 = P → p.2 = q) : Ext W H W H1 ∧ St0 G W H1 hp := by
  obtain ⟨⟨ps, more, eP, ec, rfl⟩, tab⟩ := n
  have stay : ∀ b o, H b = some o → noTbl o → upd (upd H P (.tbl (ps ++ more))) c (LamX.CodeO c q) b = some o := fun b o e nt => by
    rw [upd_ne (ne_of_none e ec), upd_ne (fun z => nt ps (by rw [z, eP] at e; exact (Option.some.inj e).symm))]
    exact e
  have there : ∀ b, H b ≠ none → upd (upd H P (.tbl (ps ++ more))) c (LamX.CodeO c q) b ≠ none := fun b h => by
    unfold upd
    split
    · simp
    · split
      · simp
      · exact h
  have x : Ext W H W (upd (upd H P (.tbl (ps ++ more))) c (LamX.CodeO c q)) := ⟨⟨fun _ _ h => h, fun _ h => h, fun a φ h => stay a _ h (fun ps z => by cases z), fun a o _ e n => stay a o e n⟩, fun a o e _ n => stay a o e n, there, fun _ h => .inl h, fun _ _ h => .inl h⟩
  refine ⟨x, ⟨fun n cl h => ?_, s.dom, s.inj, s.nfz, fun a h => there a (s.ft a h), fun t ht => ?_, fun a qs h => ?_⟩⟩
  · obtain ⟨a, ha, r⟩ := s.cells n cl h
    refine ⟨a, ha, ?_⟩
    have key : ∀ o, H a = some o → noTbl o → CellRep G W.nl (upd (upd H P (.tbl (ps ++ more))) c (LamX.CodeO c q)) a cl := fun o e nt => r.ext x.toLk.nl (by rw [stay a o e nt, e])
    cases cl with
    | box d =>
      cases d with
      | lst ds => obtain ⟨vs, e, _⟩ := r; exact key _ e fun ps z => by cases z
      | dic ds => obtain ⟨vs, e, _⟩ := r; exact key _ e fun ps z => by cases z
      | dit ds => obtain ⟨vs, e, _⟩ := r; exact key _ e fun ps z => by cases z
      | _ => exact r.elim
    | ins k fs => obtain ⟨dx, vfs, e, _⟩ := r; exact key _ e fun ps z => by cases z
  · by_cases z : t.1 = P
    · rw [hu t ht z, z]; exact tab
    · obtain ⟨qs, h1, h2, h3⟩ := s.tl t ht
      refine ⟨qs, by rw [upd_ne (ne_of_none h1 ec), upd_ne z]; exact h1, h2, fun pos cv hc => ?_⟩
      obtain ⟨c0, e1, e2⟩ := h3 pos cv hc
      exact ⟨c0, e1, stay _ _ e2 LamX.codeO_ne⟩
  · unfold upd at h
    split at h
    · exact absurd (Option.some.inj h) (LamX.codeO_ne qs)
    · split at h
      · trivial
      · trivial
/-- a lambda is made: behind its code object, its own object comes last -/
theorem lam_mk {c P : Addr} {params : Arguments} {body : Expr} {scope : Scope} {pos : Pos} {E : Value → Shared → Prop} {Q : Value → Shared → Prop} (I : Inv X pins σ H s) (TB : LamX.TabB X.base X.mg c P) (code : X.env.code = .ref c)
    (tab : LamX.TabS H P (X.env.qual ++ "<lambda>")) (dfl : defaultsOf params X.env = ([], [])) (fr : ∀ y ∈ scope.names, y.2 = .free → ∃ c, X.env.cells.lookup y.1 = some c)
    (k : ∀ (g : Heap) (tk : Nat) (a : Addr) (v1 v2 : Value) (H1 : Hp), Inv X pins σ H1 { s with heap := g, toks := tk } → (H1 = H ∨ Noted P a (X.env.qual ++ "<lambda>") H H1) → H1 a = some (LamX.CodeO a (X.env.qual ++ "<lambda>")) →
      Q (.ref g.objs.size) { s with heap := g.push (PySem.W.kla_obj "<lambda>" (X.env.qual ++ "<lambda>") params body scope (cloFrom X.env.cells scope.names []) v1 a v2), toks := tk }) :
    wpAny (model X.prog X.w) X.A (eval (.Lambda params body scope pos) X.env) Q E s := by
  obtain ⟨ps, eP, tri, among⟩ := tab
  have gP : s.heap.get? P = some { cls := .none, data := .fields ps } := I.hok P _ eP
  have bP := TB.bm.keeps I.bk
  have cP := TB.code.keeps I.bk
  have gl := I.mod.glob.keeps I.bk
  refine PySem.W.kla_eval dfl ?_
  cases am : codeAmong pos ps.toList with
  | some cv =>
    obtain ⟨a, ea, ka⟩ := among pos cv am
    subst ea
    refine PySem.W.kla_makeFunctionHit (mg := X.mg) (c := c) (P := P) (ps := ps)
      (closure_ok fr) I.ok.glob gl code cP gP tri am bP
      fun v2 g tk hx hsz => ?_
    exact k g tk a ((X.mg "__name__").getD .none) v2 H (I.kept hx) (.inl rfl) ka
  | none =>
    refine PySem.W.kla_makeFunction (mg := X.mg) (c := c) (P := P) (ps := ps)
      (closure_ok fr) I.ok.glob gl code cP gP tri am TB.gP bP
      fun a v2 g tk hx hge hlt hrec htb => ?_
    obtain ⟨a', oc, vs, t, ea, hoc, hd, hv⟩ := hrec
    cases ea
    have na : H a = none := I.hok.fresh hge
    have J := LamX.inv_table (q := X.env.qual ++ "<lambda>") (t' := tk) (more := #[rawInt pos.line, rawInt pos.col, .ref a]) (h' := g) I eP hx htb hge ⟨oc, vs, t, hoc, hd, hv⟩
    have stay : ∀ b o, H b = some o → noTbl o → upd (upd H P (.tbl (ps ++ #[rawInt pos.line, rawInt pos.col, .ref a]))) a (LamX.CodeO a (X.env.qual ++ "<lambda>")) b = some o := fun b o e nt => by
      rw [upd_ne (ne_of_none e na), upd_ne (fun z => nt ps (by rw [z, eP] at e; exact (Option.some.inj e).symm))]
      exact e
    refine k g tk a ((X.mg "__name__").getD .none) v2 _ J (.inr ⟨⟨ps, _, eP, na, rfl⟩, _, by rw [upd_ne (ne_of_none eP na), upd_same], ?_, fun p cv hcv => ?_⟩) upd_same
    · rw [show (ps ++ #[rawInt pos.line, rawInt pos.col, Value.ref a]).toList = ps.toList ++ [rawInt pos.line, rawInt pos.col, .ref a] by simp]
      exact PySem.TriplesOk_snoc _ _ _ _ tri
    · rw [show (ps ++ #[rawInt pos.line, rawInt pos.col, Value.ref a]).toList = ps.toList ++ [rawInt pos.line, rawInt pos.col, .ref a] by simp] at hcv
      rcases LamX.among_app _ tri hcv with z | z
      · obtain ⟨c0, e1, e2⟩ := among p cv z
        exact ⟨c0, e1, stay _ _ e2 LamX.codeO_ne⟩
      · exact ⟨a, z, upd_same⟩
theorem out_frames (I : Inv X pins σ H s) {f : Addr} (hf : s.heap.objs.size ≤ f) : f ∉ frs X.stack := fun z => (List.mem_cons.mp (I.stkSub _ z)).elim
  (fun e => absurd (Nat.lt_of_lt_of_le I.lt (by rw [← e]; exact hf)) (Nat.lt_irrefl _)) fun e => I.nofs hf e
/-! ### told(lambda: e) -/
def eTold (sub : Nat → Option Bool) (ret : List Nat) (em : EM) : EM := fun ρ h => match em ρ h with
  | .ex c h' => if sub c = some true then .ok (.str ret) h' else .bad
  | r => r
/-- the def that calls what it gets and catches -/
structure ToldZ (X : Cx) (k : Nat) (x : Str) (CS : Addr) (ret : List Nat) : Prop where
  ex : ∃ (a e : Str) (g : Addr) (params : Arguments) (sg : Scope) (dV kV doc pm cdv ct oc : Value) (an od : Option Addr) (osl : Array (Option Value)) (j : Nat) (p1 p2 p3 p4 p5 p6 p7 p8 : Pos) (bg : List Stmt),
    bg = [.Try [.Return (some (.Call (.Name a p1) [] [] p2)) p3] [.ExceptHandler (some (.Name e p4)) none [.Return (some (.Constant (.str ⟨ret.toArray⟩) j p5)) p6] p7] [] [] p8] ∧
    X.mg x = some (.ref g) ∧ PySem.W.keepIn X.K (.ref g) = true ∧ X.K.lookup g = some ⟨oc, od, .func (PySem.W.fnOf x x params bg sg dV kV doc pm an cdv ct), osl⟩ ∧ PySem.W.codeIn X.K cdv x = true ∧
    Binds X.K (PySem.W.fnOf x x params bg sg dV kV doc pm an cdv ct) [a] [] ∧ FnScope [a] [a] sg ∧ Vis sg a ∧ sg.names.lookup e = some .globalImplicit ∧ X.mg e = some (.ref CS) ∧ (e == ("__debug__" : Str)) = false ∧ (a == ("__debug__" : Str)) = false ∧ (a == ("__classdict__" : Str)) = false
theorem takes_lam {A : Around} {outer : List Env} {s : Shared} {H : Hp} {E : XK} {scope : Scope} {f c : Addr} : Takes (LamX.lamCx X A outer s H E scope f c) (wxE E) := takes_of rfl rfl rfl rfl
theorem e_told {sub : Nat → Option Bool} {ret : List Nat} {em : EM} {x : Str} {c P CS : Addr} {k : Nat} {params : Arguments} {body : Expr} {scope : Scope} {p lpos pos : Pos} (T : ToldZ X k x CS ret) (hr : Room (k + 2) X.A) (ho : okS ret)
    (hsub : ∀ n b, sub n = some b → PySem.W.exmOne X.K (.ref (F.G.ca n)) (.ref CS) = some b) (TB : LamX.TabB X.base X.mg c P) (hcode : X.env.code = .ref c) (hmT : (P, X.env.qual ++ "<lambda>") ∈ F.G.tl) (hu : ∀ p ∈ F.G.tl, p.1 = P → p.2 = X.env.qual ++ "<lambda>")
    (L : LamX.LamS X.env.scope scope) (hbody : ∀ (A : Around) (outer : List Env) (s : Shared) (H : Hp) (E : XK) (f c' : Addr), Room k (A.deeper (LamX.lamEnv X scope s.heap.objs.size f c')) → PE (LamX.lamCx X A outer s H E scope f c') body (TrE F (wxE E) em))
    (hg : L2.Gl X x := by rfl) (hdef : defaultsOf params X.env = ([], []) := by rfl)
    (hbind : ∀ (q : Str) (cl : List (Str × Addr)) (pm cv ctv : Value), bindArgs (PySem.W.kla_fn "<lambda>" q params body scope cl pm cv ctv) ⟨[], []⟩ = pure [] := by intros; rfl)
    (hdb : (x == ("__debug__" : Str)) = false := by decide) : PE X (.Call (.Name x p) [.Lambda params body scope lpos] [] pos) (TrE F wx (eTold sub ret em)) := by
  refine ⟨fun pins s σ H Q I h => ?_⟩
  obtain ⟨a, e, g, pg, sg, dV, kV, doc, pm, cdv, ct, oc, an, od, osl, j, p1, p2, p3, p4, p5, p6, p7, p8, bg, hbg, hm, hk, lk, hcg, hb, Sg, hva, hge, hme, hde, hd, hcd⟩ := T.ex
  subst hbg
  obtain ⟨W, ρ, hp, gd, h⟩ := h
  refine wpAny_Call_Name_kw (ld_glob I hg hm ?_ hdb)
  refine PySem.W.callWith_K (h₀ := X.base) I.ok.mod.kin hk ?_ (by rfl) (by rfl)
  show wpAny _ _ (spliced ((false, eval (.Lambda params body scope lpos) X.env) :: backTo pos (starEach [] X.env))) _ _ s
  refine Calls.spliced_cons (lam_mk I TB hcode (gd.st.tl _ hmT) hdef (L.has I.ok) fun g1 tk1 c' pm' ctv H1 I0 nt hco => ?_)
  generalize hs' : ({ s with heap := g1.push (PySem.W.kla_obj "<lambda>" (X.env.qual ++ "<lambda>") params body scope (cloFrom X.env.cells scope.names []) pm' c' ctv), toks := tk1 } : Shared) = s'
  have I1 : Inv X pins σ H1 s' := by
    rw [← hs']
    exact I0.kept (t' := tk1) fun b o e => Heap.get?_push_of_some _ e
  have hf : s'.heap.get? g1.objs.size = some (PySem.W.kla_obj "<lambda>" (X.env.qual ++ "<lambda>") params body scope (cloFrom X.env.cells scope.names []) pm' c' ctv) := by
    rw [← hs']
    exact Heap.get?_push_size _ rfl
  have hfn : H1 g1.objs.size = none := I0.hok.fresh (Nat.le_refl _)
  have hfr : g1.objs.size ∉ frs X.stack := out_frames I0 (Nat.le_refl _)
  generalize g1.objs.size = f at hf hfn hfr ⊢
  refine Calls.spliced_nil ⟨I1.kIn, ?_⟩
  have ext1 : Ext W H W H1 ∧ St0 F.G W H1 hp := by
    rcases nt with rfl | nt
    · exact ⟨Ext.refl _ _, gd.st⟩
    · exact nt.ext gd.st hu
  have gd1 := gd.ext ext1.1 ext1.2
  have h1 := Fin.ext ext1.1 h
  have act : ∀ (W' : WX) (pn : List (Addr × Obj)) (xe : Value → Shared → Prop) (E : XK) (q1 q2 : Pos), Takes ((cxOf C8.CX0 X.prog X.w X.K X.mg X.base [a] x sg g cdv X.A X.stack s' H1 C8.E0).tr pn xe) W' → (∀ cls d σ' H', E cls d H' → W' cls d σ' H') → Room (k + 1) (X.A.deeper (envOfC x sg s'.heap.objs.size g cdv)) →
      PE ((cxOf C8.CX0 X.prog X.w X.K X.mg X.base [a] x sg g cdv X.A X.stack s' H1 C8.E0).tr pn xe) (.Call (.Name a q1) [] [] q2) (fun σZ HZ Q => σZ[0]? = some (some (.ref f)) ∧ HZ c' = some (LamX.CodeO c' (X.env.qual ++ "<lambda>")) ∧ TrE F (wxE E) em σ HZ Q) :=
    fun W' pn xe E q1 q2 tk hW hr' => LamX.pe_act (i := 0) I1 L hf hfn hfr (hbind _ _ _ _ _) tk hW hr' (fun A outer s H hr2 => hbody A outer s H E f c' hr2) rfl hva hd hcd
  have rc : codeAny (model X.prog X.w) X.A (.call (.ref g) ⟨[.ref f], []⟩) (CR C8.CX0 X.stack X.prog X.w H1 s' Q C8.E0) s' := by
    refine LamX.run_ofS (N := [a]) (ps := [a]) (us := [.ref f]) (vs := [.ref f]) lk hcg Sg hr I1.env0 (hb s' [.ref f] I1.kIn rfl) (.cons rfl .nil) rfl fun hr' => ?_
    obtain ⟨t', ht', hq'⟩ := LamX.told_gives (X := X) (Ng := [a]) (x := x) (q := X.env.qual ++ "<lambda>") (cdg := cdv) hge hme hde (fun f => rfl) f c' s' H1 Q (fun E H' Q' => TrE F (wxE E) em σ H' Q') (fun W' pn xe E q1 q2 tk hW => act W' pn xe E q1 q2 tk hW hr') hco ⟨W, ρ, hp, gd1, by
      unfold eTold at h1
      cases z : em ρ hp with
      | ok d h2 => rw [z] at h1; exact h1
      | bad => rw [z] at h1; exact h1
      | ex n h2 =>
        rw [z] at h1
        have h1 : Fin F wx σ (Rep F.G) W H1 Q (if sub n = some true then .ok (.str ret) h2 else .bad) := h1
        split at h1
        · rename_i es
          exact fun W' H' x' s' => ⟨true, hsub n true es, fun _ => h1 W' _ H' x' s' ⟨rfl, ho⟩, fun z => by cases z⟩
        · exact h1.elim⟩
    exact ⟨t', ht'.nox, hq'⟩
  refine wpAny_call (codeAny_mono rc fun r s2 hq => ?_)
  cases r with
  | error e => exact (show False from hq).elim
  | ok fl =>
    cases fl with
    | ret u => exact I1.after hq
    | next => exact False.elim hq
    | brk => exact False.elim hq
    | cont => exact False.elim hq
end
end Z

/-! Z16: lambdas that catch nothing from around, kept in a list -/
namespace Z
open PySem PySem.Spec PyProof.Rows L2

section
variable {F : Fr} {X : Cx} {wx : WX} {pins : List (Addr × Obj)} {σ : L2.St} {G : Gl} {W W' : Wd} {H H' : Hp} {hp : Hc} {s : Shared} {ρ : Rho}
theorem lamO_no {f : Addr} {o : Obj} : noTbl (LamO f o) := fun ps z => by unfold LamO at z; cases z
theorem e_lam {i : Nat} {c P : Addr} {params : Arguments} {body : Expr} {scope : Scope} {lpos : Pos} (hl : F.G.lam i = some (params, body, scope, X.env.qual ++ "<lambda>")) (TB : LamX.TabB X.base X.mg c P) (hcode : X.env.code = .ref c) (hmT : (P, X.env.qual ++ "<lambda>") ∈ F.G.tl) (hu : ∀ p ∈ F.G.tl, p.1 = P → p.2 = X.env.qual ++ "<lambda>")
    (hcl : cloFrom X.env.cells scope.names [] = [] := by rfl) (hfr : ∀ y ∈ scope.names, y.2 ≠ .free := by decide +kernel) (hdef : defaultsOf params X.env = ([], []) := by rfl) : PE X (.Lambda params body scope lpos) (TrE F wx (eC (.lam i))) := by
  refine ⟨fun pins s σ H Q I h => ?_⟩
  obtain ⟨W, ρ, hp, gd, h⟩ := h
  refine lam_mk I TB hcode (gd.st.tl _ hmT) hdef (fun y hy e => absurd e (hfr y hy)) fun g tk a v1 v2 H1 I1 nt hco => ?_
  rw [hcl]
  have ext1 : Ext W H W H1 ∧ St0 F.G W H1 hp := by
    rcases nt with rfl | nt
    · exact ⟨Ext.refl _ _, gd.st⟩
    · exact nt.ext gd.st hu
  have hn : H1 g.objs.size = none := I1.hok.fresh (Nat.le_refl _)
  have J := I1.laid (a := g.objs.size) (o := LamO g.objs.size (PySem.W.kla_obj "<lambda>" (X.env.qual ++ "<lambda>") params body scope [] v1 a v2)) (t' := tk) (h' := g.push (PySem.W.kla_obj "<lambda>" (X.env.qual ++ "<lambda>") params body scope [] v1 a v2))
    (fun b u e => Heap.get?_push_of_some _ e) (Nat.le_refl _) ⟨Heap.get?_push_size _ rfl, ⟨_, Heap.get?_push_size _ rfl⟩, fun h1 h2 q st => st _ q⟩
  refine ⟨.ref g.objs.size, _, J, rfl, h W _ _ (ext1.1.trans (ext_own ext1.2 hn)) (st_own ext1.2 hn lamO_no) ⟨_, rfl, params, body, scope, _, v1, v2, a, hl, upd_same, ?_⟩⟩
  rw [upd_ne (ne_of_none hco hn)]
  exact hco
/-- the closed lambda number i: what it does -/
structure LamZ (P : Program) (w : World) (K : PySem.W.Frag) (mg : Str → Option Value) (base : Heap) (G : Gl) (k i : Nat) (m : Hc → R D) : Prop where
  run : ∀ (params : Arguments) (body : Expr) (scope : Scope) (q : Str), G.lam i = some (params, body, scope, q) → FnScope [] [] scope ∧ (∀ (q : Str) (cl : List (Str × Addr)) (pm cv ctv : Value), bindArgs (PySem.W.kla_fn "<lambda>" q params body scope cl pm cv ctv) ⟨[], []⟩ = pure []) ∧
    ∀ (W : Wd) (f c : Addr) (A : Around) (outer : List Env) (s : Shared) (H : Hp) (E : XK), Room k (A.deeper (envOfC q scope s.heap.objs.size f (.ref c))) → PE (cxOf (L2.CX P w) P w K mg base [] q scope f (.ref c) A outer s H E) body (TrE ⟨G, W, H⟩ (wxE E) fun _ h => m h)
theorem pe_lamZ {Z : Cx} {k i : Nat} {m : Hc → R D} {f : Addr} {a : Str} {W' : WX} {E : XK} {q1 q2 : Pos} (L : LamZ Z.prog Z.w Z.K Z.mg Z.base G k i m) (hr : Room (k + 1) Z.A) (tk : Takes Z W') (hW : ∀ cls d σ' H', E cls d H' → W' cls d σ' H')
    (hN : Z.N[0]? = some a) (hv : Vis Z.env.scope a) (hd : (a == ("__debug__" : Str)) = false) (hcd : (a == ("__classdict__" : Str)) = false) :
    PE Z (.Call (.Name a q1) [] [] q2) (fun σ H Q => σ[0]? = some (some (.ref f)) ∧ ∃ W hp, LamAt G H i f ∧ St0 G W H hp ∧ FinF G W H Q E (m hp)) := by
  refine ⟨fun pins s σ H Q I h => ?_⟩
  obtain ⟨hs, W, hp, ⟨params, body, scope, q, v1, v2, c, hl, hf, hc⟩, st, fin⟩ := h
  obtain ⟨S, hbind, hbody⟩ := L.run params body scope q hl
  refine wpAny_Call_Name_kw (thn ((pe_var (pos := q1) (i := 0) hN hv hd hcd).run pins s σ H (fun v H1 => v = .ref f ∧ H1 = H) I ⟨.ref f, hs, rfl, rfl⟩) fun u s1 ⟨v, H1, I1, r1, z1⟩ => ?_)
  obtain ⟨ev, eH⟩ := z1
  subst ev
  rw [eH] at I1
  obtain rfl : u = Value.ref f := r1
  have of1 := (I1.hok f _ hf).1
  obtain ⟨oc, vs, t, hoc, hdc, hvc⟩ := (I1.hok c _ hc).1
  refine PySem.W.callWith_F0 ⟨_, _, _, _, of1⟩ ?_
  have hx := passes_call tk hW
  have rc : codeAny (model Z.prog Z.w) Z.A (.call (.ref f) ⟨[], []⟩) (CR (L2.CX Z.prog Z.w) Z.stack Z.prog Z.w H s1 Q E) s1 := by
    refine PySem.W.kla_callFunE hr.depth of1 rfl S.co S.gen rfl ⟨c, oc, vs, t, rfl, hoc, hdc, hvc⟩ ?_
    rw [hbind]
    refine wpAny_pure (wpAny_newFunctionEnv_cells S.kind (fun y hy => absurd hy (by simp)) fun env he s2 x => ?_)
    subst he
    refine ⟨I1.nolimit.keeps x.toInCall.keep, ?_⟩
    have J : Inv (cxOf (L2.CX Z.prog Z.w) Z.prog Z.w Z.K Z.mg Z.base [] q scope f (.ref c) Z.A Z.stack s1 H E) [] (L2.start [] []) H s2 := inv_start (ps := []) (us := []) (vs := []) S hr.hd I1.env0 rfl .nil x
    refine PySem.W.kla_codeExpr (wpAny_mono ((hbody W f c Z.A Z.stack s1 H E (hr.deeper _)).run [] s2 _ H Q J ⟨W, _, hp, start_gd (N := []) (ds := []) st rfl, ?_⟩) (fun v s' hq => ?_) fun e s' hq => hq)
    · show Fin _ _ _ _ _ _ _ (m hp)
      revert fin
      cases m hp with
      | ok d h2 => exact fun fin => fin
      | ex n h2 => exact fun fin => fin
      | bad => exact fun fin => fin
    · obtain ⟨w', H', J', rv, q⟩ := hq
      exact ⟨w', H', J'.os, J'.bare, J'.base, J'.hok, rv, q⟩
  refine wpAny_call (codeAny_mono rc fun r s' hq => ?_)
  cases r with
  | error e => exact hx pins σ H s1 e s' I1 hq
  | ok fl =>
    cases fl with
    | ret u => exact I1.after hq
    | next => exact False.elim hq
    | brk => exact False.elim hq
    | cont => exact False.elim hq
/-- told(f), f a closed lambda -/
def eToldL (sub : Nat → Option Bool) (ret : List Nat) (lamM : Nat → Hc → R D) (em : EM) : EM := fun ρ h => (em ρ h).bind fun d h1 => match d with
  | .lam i => (match lamM i h1 with
    | .ex c h2 => if sub c = some true then .ok (.str ret) h2 else .bad
    | r => r)
  | _ => .bad
theorem e_toldL {sub : Nat → Option Bool} {ret : List Nat} {lamM : Nat → Hc → R D} {em : EM} {x : Str} {CS : Addr} {k : Nat} {e : Expr} {p pos : Pos} (T : ToldZ X k x CS ret) (hr : Room (k + 2) X.A) (ho : okS ret)
    (hsub : ∀ n b, sub n = some b → PySem.W.exmOne X.K (.ref (F.G.ca n)) (.ref CS) = some b) (L : ∀ i, LamZ X.prog X.w X.K X.mg X.base F.G k i (lamM i)) (he : PE X e (TrE F wx em)) (hg : L2.Gl X x := by rfl)
    (hdb : (x == ("__debug__" : Str)) = false := by decide) (hst : starEach [e] X.env = (false, eval e X.env) :: starEach [] X.env := by rfl) : PE X (.Call (.Name x p) [e] [] pos) (TrE F wx (eToldL sub ret lamM em)) := by
  refine ⟨fun pins s σ H Q I h => ?_⟩
  obtain ⟨a, e', g, pg, sg, dV, kV, doc, pm, cdv, ct, oc, an, od, osl, j, p1, p2, p3, p4, p5, p6, p7, p8, bg, hbg, hm, hk, lk, hcg, hb, Sg, hva, hge, hme, hde, hd, hcd⟩ := T.ex
  subst hbg
  refine wpAny_Call_Name_kw (ld_glob I hg hm ?_ hdb)
  refine PySem.W.callWith_K (h₀ := X.base) I.ok.mod.kin hk ?_ hst (by rfl)
  obtain ⟨W, ρ, hp, gd, h⟩ := h
  have ha : PA X [e] (tCons (TrE F wx em) tNil) := pa_cons he pa_nil hst
  refine thn (ha.run pos pins s σ H (fun vs H1 => ∃ f W1 hp1 i, vs = [.ref f] ∧ LamAt F.G H1 i f ∧ St0 F.G W1 H1 hp1 ∧ FinF F.G W1 H1 Q (fun cls _ H' => ∃ b, PySem.W.exmOne X.K cls (.ref CS) = some b ∧ (b = true → Q (.str ⟨ret.toArray⟩) H') ∧ (b = false → False)) (lamM i hp1)) I ⟨W, ρ, hp, gd, Fin.bind h fun d hp1 W1 v H1 x1 s1 r1 h1 => ?_⟩) fun us s1 ⟨vs, H1, I1, rv, f, W1, hp1, i, ev, la, st, fin⟩ => ⟨I1.kIn, ?_⟩
  · split at h1
    · rename_i i
      obtain ⟨f, rfl, la⟩ := r1
      refine ⟨f, W1, hp1, i, rfl, la, s1, ?_⟩
      cases z : lamM i hp1 with
      | ok d h2 => rw [z] at h1; exact h1
      | bad => rw [z] at h1; exact h1
      | ex n h2 =>
        rw [z] at h1
        have h1 : Fin F wx σ (Rep F.G) W1 H1 Q (if sub n = some true then .ok (.str ret) h2 else .bad) := h1
        split at h1
        · rename_i es
          exact fun W' H' x' s' => ⟨true, hsub n true es, fun _ => h1 W' _ H' x' s' ⟨rfl, ho⟩, fun z => by cases z⟩
        · exact h1.elim
    · exact h1.elim
  · subst ev
    obtain ⟨u, rfl, ru⟩ := rv.one
    obtain rfl : u = Value.ref f := ru
    have hcode : ∃ c q, H1 c = some (LamX.CodeO c q) := by
      obtain ⟨_, _, _, q, _, _, c, _, _, hc⟩ := la
      exact ⟨c, q, hc⟩
    obtain ⟨c, q, hc⟩ := hcode
    have rc : codeAny (model X.prog X.w) X.A (.call (.ref g) ⟨[.ref f], []⟩) (CR C8.CX0 X.stack X.prog X.w H1 s1 Q C8.E0) s1 := by
      refine LamX.run_ofS (N := [a]) (ps := [a]) (us := [.ref f]) (vs := [.ref f]) lk hcg Sg hr I1.env0 (hb s1 [.ref f] I1.kIn rfl) (.cons rfl .nil) rfl fun hr' => ?_
      obtain ⟨t', ht', hq'⟩ := LamX.told_gives (X := X) (Ng := [a]) (x := x) (q := q) (cdg := cdv) hge hme hde (fun f => rfl) f c s1 H1 Q (fun E HZ Q' => ∃ W hp, LamAt F.G HZ i f ∧ St0 F.G W HZ hp ∧ FinF F.G W HZ Q' E (lamM i hp)) (fun W' pn xe E q1 q2 tk hW =>
        PE.imp (pe_lamZ (Z := (cxOf C8.CX0 X.prog X.w X.K X.mg X.base [a] x sg g cdv X.A X.stack s1 H1 C8.E0).tr pn xe) (L i) hr' tk hW rfl hva hd hcd) fun σZ HZ Q' ⟨z1, z2, z3⟩ => ⟨z1, z3⟩) hc ⟨W1, hp1, la, st, fin⟩
      exact ⟨t', ht'.nox, hq'⟩
    refine wpAny_call (codeAny_mono rc fun r s2 hq => ?_)
    cases r with
    | error e => exact (show False from hq).elim
    | ok fl =>
      cases fl with
      | ret u => exact I1.after hq
      | next => exact False.elim hq
      | brk => exact False.elim hq
      | cont => exact False.elim hq
end
end Z

/-! Zk: glue for printed texts -/
namespace Z
open PySem PySem.Spec PyProof.Rows L2

section
variable {F : Fr} {X : Cx} {wx : WX} {k : Nat}
theorem hu64 (hr : Room k X.A) : X.A.units + 64 < cLine := by have := hr.un; omega
theorem hu65 (hr : Room k X.A) : X.A.units + 65 < cLine := by have := hr.un; omega
theorem oEq (hr : Room k X.A) : OpR X (compareOp .Eq) (rEqD X.K) := op_eqD (hu64 hr)
theorem oNe (hr : Room k X.A) : OpR X (compareOp .NotEq) (rNeD X.K) := op_neD (hu64 hr)
theorem oIn (hr : Room k X.A) : OpR X (compareOp .In) (rInAll X.K false) := o_in (hu65 hr)
theorem oNotIn (hr : Room k X.A) : OpR X (compareOp .NotIn) (rInAll X.K true) := o_notIn (hu65 hr)
theorem s_in (hK : F.G.K = X.K) : OpS F (RepB F.G) (RepB F.G) opIn (rInAll X.K false) := s_inD hK false
theorem s_notIn (hK : F.G.K = X.K) : OpS F (RepB F.G) (RepB F.G) opNotIn (rInAll X.K true) := s_inD hK true
/-- a global whole number -/
theorem e_gint {x : Str} {n : Int} {pos : Pos} (h : ∃ u, X.mg x = some u ∧ RelV (.int n) u) (hg : L2.Gl X x := by rfl) (hd : (x == ("__debug__" : Str)) = false := by decide) : PE X (.Name x pos) (TrE F wx (eC (.int n))) :=
  let ⟨_, hm, r⟩ := h
  PE.imp (pe_glob hg hm r hd) fun σ H Q ⟨W, ρ, hp, g, h⟩ => Fin.here h g.st rfl
theorem w_and1 {a : Expr} {t : TM} {pos : Pos} (h : PT X a (TrT F wx t)) : PW X (.BoolOp .And [a] pos) (TrT F wx t) := pw_and1 h
theorem w_or1 {a : Expr} {t : TM} {pos : Pos} (h : PT X a (TrT F wx t)) : PW X (.BoolOp .Or [a] pos) (TrT F wx t) := pw_or1 h
theorem a1 {e : Expr} {em : EM} (h : PE X e (TrE F wx em)) (hs : starEach [e] X.env = (false, eval e X.env) :: starEach [] X.env := by rfl) : PA X [e] (TrA F wx (aCons em aNil)) := a_cons h a_nil hs
/-- what the walk knows of an exception class: its number, its name -/
structure ExZ (K : PySem.W.Frag) (mg : Str → Option Value) (G : Gl) (c : Nat) (x : Str) : Prop where
  gm : mg x = some (.ref (G.ca c))
  ex : PySem.W.excIn K (G.ca c) [.type "ValueError", .type "Exception", .type "BaseException", .type "object"] "ValueError.__new__" = true
  kp : PySem.W.keepIn K (.ref (G.ca c)) = true
  sub : PySem.W.subIn K (.ref (G.ca c)) (.type "BaseException") = some true
  ty : PySem.W.typeIn K (.ref (G.ca c)) = some (.type "type")
theorem mk_ex {c : Nat} {x m : Str} {j : Nat} {p p2 pos : Pos} (z : ExZ X.K X.mg F.G c x) (hg : L2.Gl X x := by rfl) (hdb : (x == ("__debug__" : Str)) = false := by decide) : PMk X (.Call (.Name x p) [.Constant (.str m) j p2] [] pos) (fun _ H Q => Q (.ref (F.G.ca c)) none H) :=
  pmk_own PySem.F.excBase_ValueError z.ex z.gm z.kp (raises_own z.sub z.ty) hg hdb
/-- a def's facts as the head tells them -/
abbrev DefAt (K : PySem.W.Frag) (mg : Str → Option Value) (x : Str) (st : Stmt) : Prop := ∃ f fd, FunD K x x (defArgs st) (defBody st) (defScope st) [] [] f fd ∧ mg x = some (.ref f)
end
end Z

/-! Z17: generator expressions: their context, their loop -/
namespace Z
open PySem PySem.Spec PyProof.Rows L2 GenW

/-- the names of a generator expression: none a cell, captured ones the def's, its own ones slots -/
structure GxS (N : List Str) (sc scope : Scope) (own : List (Str × Nat)) : Prop where
  kind : scope.kind = .function
  co : scope.isCoroutine = false
  dot : scope.names.lookup (".0" : Str) = some NameKind.local
  nocell : ∀ y ∈ scope.names, y.2 ≠ .cell
  ix : ∀ p ∈ own, N[p.2]? = some p.1
  free : ∀ y ∈ scope.names, y.2 = .free → sc.names.lookup y.1 = some .cell ∨ sc.names.lookup y.1 = some .free
  own : ∀ y ∈ scope.names, y.2 = .local → y.1 ∈ own.map (·.1) ∨ y.1 ∉ N
def gxB (N : List Str) (sc scope : Scope) (own : List (Str × Nat)) : Bool :=
  decide (scope.kind = .function) && !scope.isCoroutine && decide (scope.names.lookup (".0" : Str) = some NameKind.local) && (own.all fun p => decide (N[p.2]? = some p.1)) &&
    scope.names.all fun y => match y.2 with
      | .cell => false
      | .free => (match sc.names.lookup y.1 with | some .cell => true | some .free => true | _ => false)
      | .local => decide (y.1 ∈ own.map (·.1)) || decide (y.1 ∉ N)
      | _ => true
theorem gx_by {N : List Str} {sc scope : Scope} {own : List (Str × Nat)} (h : gxB N sc scope own = true) : GxS N sc scope own := by
  unfold gxB at h
  simp only [Bool.and_eq_true, List.all_eq_true, decide_eq_true_eq, Bool.not_eq_true'] at h
  obtain ⟨⟨⟨⟨h1, h2⟩, h3⟩, h4⟩, h5⟩ := h
  refine ⟨h1, h2, h3, fun y hy e => ?_, h4, fun y hy e => ?_, fun y hy e => ?_⟩
  · have q := h5 y hy
    simp only [e] at q
    cases q
  · have q := h5 y hy
    simp only [e] at q
    split at q <;> first | exact .inl (by assumption) | exact .inr (by assumption) | cases q
  · have q := h5 y hy
    simp only [e, Bool.or_eq_true, decide_eq_true_eq] at q
    exact q
abbrev gxEnv (X : Cx) (scope : Scope) (C : Addr) (code : Value) : Env := genEnv scope (cloFrom X.env.cells scope.names []) C code builtinsNs X.env
/-- the context of a generator expression's body -/
def gxCx (X : Cx) (A : Around) (s : Shared) (H : Hp) (env : Env) (fp : List Addr) (pn : List (Addr × Obj)) : Cx :=
  { X with A := A.deeper env, s_0 := s, H_0 := H, env := env, outer := X.stack, stack := env :: X.stack, ex := fp, fn := fun _ => false, calm := true, pn := pn, xe := fun _ _ => False }
section
variable {X : Cx} {pins : List (Addr × Obj)} {σ : L2.St} {H : Hp} {s : Shared}
theorem gx_start {scope : Scope} {own : List (Str × Nat)} {fp : List Addr} {A : Around} {h5 : Heap} {g5 : Array GenState} {d5 : Drawn} {tk : Nat} {code it : Value} {C a : Addr} {go : Obj} (I : Inv X pins σ H s) (ok : GxS X.N X.env.scope scope own) (hN : X.N.Nodup) (hA : A.handled = none) (hF : A.frames = some X.stack)
    (hfp : ∀ b ∈ fp, FpOk X pins H b ∧ b < s.heap.objs.size) (hC : C = s.heap.objs.size) (ha : s.heap.objs.size < a) (hns : h5.Ns C fun y => if y = ".0" then some it else none)
    (kp : ∀ b o, s.heap.get? b = some o → h5.get? b = some o) (hgo : h5.get? a = some go) (hgd : ∀ v, go.data ≠ .cell v) (hb : AllBare g5) :
    Inv (gxCx X A s H (gxEnv X scope C code) fp [(a, go)]) [] (wipe σ (own.map (·.2))) H { s with heap := h5, gens := g5, drawn := d5, toks := tk } := by
  have fr : ∀ {y}, (y, NameKind.free) ∈ scope.names → ∃ c, X.env.cells.lookup y = some c := fun {y} hy =>
    (ok.free _ hy rfl).elim (fun k => I.ok.has _ (.inl k)) fun k => I.ok.has _ (.inr k)
  have up : ∀ {y c}, (cloFrom X.env.cells scope.names []).lookup y = some c → X.env.cells.lookup y = some c ∧ c < s.heap.objs.size := fun {y c} e => by
    rcases cloFrom_mem (PySem.mem_of_lookup e) with hm | ⟨h1, h2⟩
    · cases hm
    · obtain ⟨c1, hc⟩ := fr h1
      have e2 : c = c1 := by rw [h2, hc]; rfl
      obtain ⟨v, z⟩ := I.cell _ _ hc
      rw [e2]
      exact ⟨hc, z.lt⟩
  have dn : ∀ {y}, scope.names.lookup y = some .free → ∃ c, (cloFrom X.env.cells scope.names []).lookup y = some c := fun {y} hl =>
    mem_lookup (cloFrom_has (cells := X.env.cells) (acc := []) (PySem.mem_of_lookup hl))
  have yng : ∀ {b}, s.heap.objs.size ≤ b → b ∉ frs X.stack := fun {b} h => out_frames I h
  have okG : (gxCx X A s H (gxEnv X scope C code) fp [(a, go)]).Ok := by
    refine ⟨I.ok.mod, ok.kind, I.ok.glob, rfl, Nat.le_of_eq hC.symm, fun y z c e1 e2 => I.ok.inj y z c (up e1).1 (up e2).1, fun y hy => ?_, fun y c z _ => (by cases (show false = true from z)), fun _ => hA,
      Around.frames_deeper hF, .inr ⟨rfl, rfl⟩, fun b hb => ⟨?_, fun y c e z => ?_⟩, I.bs, Nat.le_trans I.ok.bsz I.sz, fun b o e hb => ?_, fun b hb z => ?_, I.stack, I.stkFree⟩
    · rcases (show scope.names.lookup y = some .cell ∨ scope.names.lookup y = some .free from hy) with hy | hy
      · exact absurd rfl (ok.nocell _ (PySem.mem_of_lookup hy))
      · exact dn hy
    · show b ≠ C
      rw [hC]
      exact Nat.ne_of_lt (hfp b hb).2
    · exact (hfp b hb).1.2.2.2.2.1 y c (up e).1 z
    · exact (hfp b hb).1.2.2.2.1.elim (fun z => I.ok.noex b o e z) fun z => absurd (Nat.lt_of_lt_of_le (Heap.lt_size e) (Nat.le_trans I.ok.bsz z)) (Nat.lt_irrefl _)
    · exact (List.mem_cons.mp (I.stkSub b z)).elim (hfp b hb).1.2.1 (hfp b hb).1.2.2.1
  refine ⟨okG, rfl, hb, Un.kept kp, ⟨_, hns, fun i y v e1 e2 e3 => ?_⟩, fun y c e => ?_, ?_, fun y c e => I.freeC y c (up e).1, fun p hp => ?_, I.hok.kept kp, by rw [wipe_length]; exact I.len⟩
  · obtain ⟨e2, hne⟩ := wipe_some e2
    have loc : scope.names.lookup y ≠ some .local := fun k => by
      rcases ok.own _ (PySem.mem_of_lookup k) rfl with z | z
      · obtain ⟨p, hp, hpy⟩ := List.mem_map.mp z
        have e4 := ok.ix p hp
        rw [show p.1 = y from hpy] at e4
        exact hne (List.mem_map.mpr ⟨p, hp, nodup_ix hN e4 e1⟩)
      · exact z (List.mem_of_getElem? e1)
    have k : scope.names.lookup y = some .free := by
      rcases (show Vis scope y from e3) with k | k | k
      · exact absurd k loc
      · exact absurd rfl (ok.nocell _ (PySem.mem_of_lookup k))
      · exact k
    obtain ⟨m, hn, hl⟩ := I.loc
    obtain ⟨u, r, q⟩ := hl i y v e1 e2 ((ok.free _ (PySem.mem_of_lookup k) rfl).elim (fun k => .inr (.inl k)) fun k => .inr (.inr k))
    obtain ⟨c, ec⟩ := dn k
    refine ⟨u, r, .inr ⟨.inr k, c, ec, ?_⟩⟩
    rcases q with ⟨k', _⟩ | ⟨_, c', e', z⟩
    · have k' : X.env.scope.names.lookup y = some .local := k'
      exact (ok.free _ (PySem.mem_of_lookup k) rfl).elim (fun z => by rw [show X.env.scope.names.lookup y = _ from z] at k'; cases k') fun z => by rw [show X.env.scope.names.lookup y = _ from z] at k'; cases k'
    · rw [(up ec).1] at e'
      cases e'
      exact z.keeps kp
  · obtain ⟨v, z⟩ := I.cell y c (up e).1
    exact ⟨v, z.keeps kp⟩
  · show H C = none
    exact I.hok.fresh (Nat.le_of_eq hC.symm)
  · have hp : p ∈ [(a, go)] ++ ([] : List (Addr × Obj)) := hp
    have e : p = (a, go) := by simpa using hp
    rw [e]
    refine ⟨hgo, I.hok.fresh (Nat.le_of_lt ha), ?_, yng (Nat.le_of_lt ha), hgd⟩
    show a ≠ C
    rw [hC]
    exact Nat.ne_of_gt ha
end
/-! ### what the consumer may do while the generator sleeps -/
abbrev OwT := List V → List (Addr × Obj) → Prop
/-- all but the consumer's own objects stay, those stand as OW says -/
structure KeepO (own : List Addr) (OW : OwT) (ys : List V) (s s' : Shared) : Prop where
  os : s'.os = s.os
  bare : AllBare s'.gens
  keep : ∀ b o, b ∉ own → s.heap.get? b = some o → s'.heap.get? b = some o
  ow : ∃ op : List (Addr × Obj), OW ys op ∧ op.map (·.1) = own ∧ ∀ p ∈ op, s'.heap.get? p.1 = some p.2 ∧ ∀ v, p.2.data ≠ .cell v
def GxAt (Z : Cx) (σ : L2.St) (own : List Addr) (OW : OwT) (ys : List V) (H : Hp) (s : Shared) : Prop := ∃ op : List (Addr × Obj), OW ys op ∧ op.map (·.1) = own ∧ Inv Z op σ H s
/-- the consumer's own objects are apart -/
structure OwnApart (Z : Cx) (own : List Addr) : Prop where
  yng : ∀ b ∈ own, Z.s_0.heap.objs.size ≤ b
  pn : ∀ p ∈ Z.pn, p.1 ∉ own
  cell : ∀ x c, Z.env.cells.lookup x = some c → c ∉ own
  ex : ∀ b ∈ Z.ex, b ∉ own
theorem inv_gens {X : Cx} {pins : List (Addr × Obj)} {σ : L2.St} {H : Hp} {s s' : Shared} (I : Inv X pins σ H s) (hh : s'.heap = s.heap) (ho : s'.os = s.os) (hb : AllBare s'.gens) : Inv X pins σ H s' := by
  obtain ⟨h, g, d, t, o⟩ := s'
  cases hh
  cases ho
  exact ⟨I.ok, I.os, hb, I.base, I.loc, I.cell, I.free, I.freeC, I.pin, I.hok, I.len⟩
theorem GxAt.keep {Z : Cx} {σ : L2.St} {own : List Addr} {OW : OwT} {ys ys' : List V} {H : Hp} {s s' : Shared} (h : GxAt Z σ own OW ys H s) (k : KeepO own OW ys' s s') (ap : OwnApart Z own) : GxAt Z σ own OW ys' H s' := by
  obtain ⟨op, _, ho, I⟩ := h
  obtain ⟨op', w', ho', hp'⟩ := k.ow
  have at_ : ∀ b ∈ own, H b = none ∧ b ≠ Z.env.locals ∧ b ∉ Z.fs := fun b hb => by
    rw [← ho] at hb
    obtain ⟨p, hp, e⟩ := List.mem_map.mp hb
    have q := I.pin p (List.mem_append_right _ hp)
    rw [e] at q
    exact ⟨q.2.1, q.2.2.1, q.2.2.2.1⟩
  have I0 : Inv Z [] σ H s := I.pins_of fun p hp => absurd hp (by simp)
  have J := I0.turnedL (ch := own) (h' := s'.heap) (t' := s'.toks) (fun b o hb e => k.keep b o hb e) fun b hb => ⟨(at_ b hb).1, (at_ b hb).2.1, (at_ b hb).2.2, .inr (ap.yng b hb), fun x c e z => ap.cell x c e (by rw [z]; exact hb), fun p hp z => by
    rw [List.append_nil] at hp
    exact ap.pn p hp (by rw [z]; exact hb)⟩
  have J2 : Inv Z [] σ H s' := inv_gens J rfl k.os k.bare
  refine ⟨op', w', ho', J2.pins_of fun p hp => ?_⟩
  have hb : p.1 ∈ own := by rw [← ho']; exact List.mem_map.mpr ⟨p, hp, rfl⟩
  exact ⟨(hp' p hp).1, (at_ _ hb).1, (at_ _ hb).2.1, (at_ _ hb).2.2, (hp' p hp).2⟩
def GxY (Z : Cx) (own : List Addr) (OW : OwT) (YP : List V → V → Hp → Prop) (N : Nat) : Protocol := fun n _ v s kap =>
  ∃ ys y H σ', n + 1 + ys.length = N ∧ ys.length + 1 < N ∧ RelV y v ∧ YP ys y H ∧ GxAt Z σ' own OW ys H s ∧ ∀ s', KeepO own OW (ys ++ [y]) s s' → kap (.send .none) s'
def GxF (Z : Cx) (own : List Addr) (OW : OwT) (GD : List V → Hp → Prop) (N : Nat) : Nat → Shared → Shared → Prop := fun n _ s => ∃ ys H σ', n + ys.length = N ∧ GD ys H ∧ GxAt Z σ' own OW ys H s
abbrev GxR (F : Nat → Shared → Shared → Prop) : GenEnd := fun n s₀ r s₁ => ((r = .ok (.ret .none) ∨ r = .ok .next) ∧ F n s₀ s₁) ∨ ∃ e, r = .error e ∧ (fun (_ : Value) (_ : Shared) => False) e s₁
/-- what a turn asks: i the turn, ys what is out, m a measure -/
abbrev GxW := Nat → List V → Nat → Hp → Prop
def tGx (g : TG) (tt : TT) (te : TE) (vs : List Nat) (σ : L2.St) (J : It) (YP : List V → V → Hp → Prop) (GD : List V → Hp → Prop) (N : Nat) (W : GxW) : Prop := ∀ i ys m H, W i ys m H →
  (J.stop i H ∧ GD ys H) ∨ (J.go i H ∧ ∃ Nx : List V → Hp → Prop, (∀ ys' H', Nx ys' H' → ∃ m', m' < m ∧ W (i + 1) ys' m' H') ∧ ∀ x H', J.yld i H x H' → g x (wipe σ vs) H' fun σ2 H2 => wipe σ2 vs = wipe σ vs ∧ tt σ2 H2 fun b H3 =>
    if b = true then te σ2 H3 fun y H4 => ys.length + 1 < N ∧ YP ys y H4 ∧ Nx (ys ++ [y]) H4 else Nx ys H3)
section
variable {Z : Cx} {B : Around} {σ : L2.St} {fp own : List Addr} {OW : OwT} {YP : List V → V → Hp → Prop} {GD : List V → Hp → Prop} {N : Nat} {W : GxW} {vs : List Nat} {tg elt iter : Expr} {ifs : List Expr} {scope : Scope} {pos : Pos} {J : It} {it : Addr} {tn : Nat → Heap → Prop} {gt : TG} {tt : TT} {te : TE}
theorem gx_loop (T : Turn Z.prog Z.w Z.K tg J fp it tn) (hxe : Z.xe = fun _ _ => False) (hex : Z.ex = fp) (hc : Z.calm = true) (hov : B.over (.compLoop (.GeneratorExp elt [⟨tg, iter, ifs, 0⟩] scope pos) 0 (.ref it) .none Z.env) [] = Z.A) (hco : Z.env.scope.isCoroutine = false)
    (ap : OwnApart Z own) (hpf : ∀ p ∈ Z.pn, p.1 ∉ fp) (pg : PG Z tg gt) (pt : PTs Z ifs tt) (pe : PE Z elt te) (turn : tGx gt tt te vs σ J YP GD N W) :
    ∀ (m i : Nat) (ys : List V) (n : Nat) (s₀ s : Shared) (H : Hp), n + ys.length = N → ys.length < N → GxAt Z (wipe σ vs) own OW ys H s → tn i s.heap → (∀ b ∈ fp, H b = none) → W i ys m H →
      Seg (model Z.prog Z.w) B (GxR (GxF Z own OW GD N)) (GxY Z own OW YP N) n s₀ (.compLoop (.GeneratorExp elt [⟨tg, iter, ifs, 0⟩] scope pos) 0 (.ref it) .none Z.env)
        ((model Z.prog Z.w).den (.compLoop (.GeneratorExp elt [⟨tg, iter, ifs, 0⟩] scope pos) 0 (.ref it) .none Z.env)) [] s := by
  intro m
  induction m using Nat.strongRecOn with
  | ind m ih =>
    intro i ys n s₀ s H hn hlt hat st hfn w
    obtain ⟨op, hw, hop, I⟩ := hat
    have stat : ∀ {σ' : L2.St} {H' : Hp} {s' : Shared} {op' : List (Addr × Obj)}, Inv Z op' σ' H' s' → op'.map (·.1) = own → (∀ b ∈ fp, H' b = none) → ∀ b ∈ fp, FpOk Z op' H' b := fun {σ' H' s' op'} I' ho' hn' b hb =>
      ⟨hn' b hb, (I'.ok.exf b (by rw [hex]; exact hb)).1, I'.ok.exfs b (by rw [hex]; exact hb), .inl (by rw [hex]; exact hb), fun x c e => (I'.ok.exf b (by rw [hex]; exact hb)).2 x c e, fun p hp z => by
        rcases List.mem_append.mp hp with hp | hp
        · exact hpf p hp (by rw [z]; exact hb)
        · exact ap.ex b (by rw [hex]; exact hb) (by rw [← ho', ← z]; exact List.mem_map.mpr ⟨p, hp, rfl⟩)⟩
    have fl : ∀ {α : Type} {t : Sem α} {Q Q' : α → Shared → Prop} {E : Value → Shared → Prop} {s : Shared}, wpAny (model Z.prog Z.w) Z.A t Q Z.xe s → (∀ a s, Q a s → Q' a s) → wpAny (model Z.prog Z.w) (B.over (.compLoop (.GeneratorExp elt [⟨tg, iter, ifs, 0⟩] scope pos) 0 (.ref it) .none Z.env) []) t Q' E s := fun {α t Q Q' E s} h k => by
      rw [hov]
      rw [hxe] at h
      exact wpAny_mono h k fun _ _ z => False.elim z
    show Seg _ B _ _ _ s₀ _ ((compTurn (.GeneratorExp elt [⟨tg, iter, ifs, 0⟩] scope pos) 0 (.ref it) .none Z.env).onRaise (leaving Z.env)) [] s
    rw [compTurn_gen, Sem.onRaise_eq_wrap]
    refine seg_bind_wrap (wpAny_standAt ?_)
    rcases turn i ys m H w with ⟨stop, gd⟩ | ⟨go, Nx, hNx, step⟩
    · refine seg_bind_wrap (fl (T.done Z rfl rfl rfl hc i op s _ H Z.xe I (stat I hop hfn) st stop) fun r s1 ⟨hr, I1⟩ => ?_)
      subst hr
      exact seg_end (.ok .next) (.inl ⟨.inr rfl, ys, H, _, hn, gd, op, hw, hop, I1⟩)
    · refine seg_bind_wrap (fl (T.item Z rfl rfl rfl hc i op s _ H Z.xe I (stat I hop hfn) st go) fun r s1 ⟨u, hr, h1⟩ => ?_)
      subst hr
      refine seg_bind_wrap (fl h1 fun _ s2 ⟨x, H2, I2, r2, y2, st2, n2⟩ => ?_)
      have I2' := I2.pinned (stat I2 hop n2) (T.obj _ _ st2)
      refine seg_bind_wrap (fl (pg.run _ s2 _ H2 x u _ I2' r2 (step x H2 y2)) fun _ s3 ⟨σ3, H3, I3, hw3, q3⟩ => ?_)
      refine seg_bind_wrap (fl (pt.run _ s3 σ3 H3 _ I3 q3) fun b s4 ⟨H4, I4, q4⟩ => ?_)
      -- the turn's end
      have fin : ∀ {s' : Shared} {H' : Hp}, Inv Z (op ++ pinsAt fp s2.heap) σ3 H' s' → Inv Z op (wipe σ vs) H' s' ∧ tn (i + 1) s'.heap ∧ ∀ b ∈ fp, H' b = none := fun {s' H'} I' => by
        have pin' : ∀ b ∈ fp, ∀ o, s2.heap.get? b = some o → s'.heap.get? b = some o ∧ H' b = none := fun b hb o e =>
          let z := I'.pin (b, o) (List.mem_append_right _ (List.mem_append_right _ (mem_pinsAt hb e)))
          ⟨z.1, z.2.1⟩
        refine ⟨I'.unpinned.weak (by rw [← hw3, wipe_length]) fun j v e => ?_, T.keep _ _ _ st2 fun b hb o e => (pin' b hb o e).1, fun b hb => ?_⟩
        · rw [← hw3] at e
          exact (wipe_some e).1
        · obtain ⟨o, e, _⟩ := T.obj _ _ st2 b hb
          exact (pin' b hb o e).2
      cases b with
      | false =>
        simp only [Bool.false_eq_true, if_false] at q4 ⊢
        obtain ⟨m', hm, w'⟩ := hNx ys H4 q4
        obtain ⟨J4, t4, f4⟩ := fin I4
        exact seg_again rfl (ih m' hm (i + 1) ys n s₀ s4 H4 hn hlt ⟨op, hw, hop, J4⟩ t4 f4 w')
      | true =>
        simp only [if_true] at q4 ⊢
        have hy : ∀ v, yieldOut Z.env v = yieldValue v := fun v => by simp only [yieldOut, hco, Bool.false_eq_true, if_false]
        simp only [hy]
        rw [Sem.bind_eq_wrap', Sem.bind_eq_wrap', Sem.wrap_wrap, Sem.wrap_wrap]
        refine seg_wrap (fl (pe.run _ s4 σ3 H4 _ I4 q4) fun y s5 ⟨yv, H5, I5, r5, hlt5, yp, nx⟩ => ?_)
        obtain ⟨m', hm, w'⟩ := hNx _ H5 nx
        obtain ⟨J5, t5, f5⟩ := fin I5
        obtain ⟨n, rfl⟩ : ∃ k, n = k + 1 := ⟨n - 1, by omega⟩
        have at5 : GxAt Z (wipe σ vs) own OW ys H5 s5 := ⟨op, hw, hop, J5⟩
        refine seg_at (seg_yield rfl rfl rfl ⟨ys, yv, H5, _, hn, hlt5, r5, yp, at5, fun s6 k6 => ?_⟩)
        refine seg_again rfl (ih m' hm (i + 1) (ys ++ [yv]) n s6 s6 H5 (by rw [List.length_append, List.length_singleton]; omega) (by rw [List.length_append, List.length_singleton]; exact hlt5) (at5.keep k6 ap) (T.keep _ _ _ t5 fun b hb o e => k6.keep b o (ap.ex b (by rw [hex]; exact hb)) e) f5 w')
end
end Z

/-! Z18: a generator is made, asked for its next item -/
namespace Z
open PySem PySem.Spec PyProof.Rows L2 GenW

section
variable {Z : Cx} {B : Around} {σ : L2.St} {fp own : List Addr} {OW : OwT} {YP : List V → V → Hp → Prop} {GD : List V → Hp → Prop} {N : Nat} {W : GxW} {vs : List Nat} {tg elt iter : Expr} {ifs : List Expr} {scope : Scope} {pos : Pos} {J : It} {it : Addr} {tn : Nat → Heap → Prop} {gt : TG} {tt : TT} {te : TE}
theorem gx_begin (T : Turn Z.prog Z.w Z.K tg J fp it tn) (hxe : Z.xe = fun _ _ => False) (hex : Z.ex = fp) (hc : Z.calm = true) (hov : B.over (.compLoop (.GeneratorExp elt [⟨tg, iter, ifs, 0⟩] scope pos) 0 (.ref it) .none Z.env) [] = Z.A) (hco : Z.env.scope.isCoroutine = false)
    (ap : OwnApart Z own) (hpf : ∀ p ∈ Z.pn, p.1 ∉ fp) (pg : PG Z tg gt) (pt : PTs Z ifs tt) (pe : PE Z elt te) (turn : tGx gt tt te vs σ J YP GD N W) (hN : 0 < N) {m : Nat} {s₀ s : Shared} {H : Hp} (hat : GxAt Z (wipe σ vs) own OW [] H s) (st : tn 0 s.heap) (hfn : ∀ b ∈ fp, H b = none) (w : W 0 [] m H) :
    Seg (model Z.prog Z.w) B (GxR (GxF Z own OW GD N)) (GxY Z own OW YP N) N s₀ (.compStart (.GeneratorExp elt [⟨tg, iter, ifs, 0⟩] scope pos) 0 (.ref it) .none Z.env)
      ((model Z.prog Z.w).den (.compStart (.GeneratorExp elt [⟨tg, iter, ifs, 0⟩] scope pos) 0 (.ref it) .none Z.env)) [] s := by
  have loop := gx_loop (B := B) (scope := scope) (pos := pos) (iter := iter) T hxe hex hc hov hco ap hpf pg pt pe turn m 0 [] N s₀ s H rfl hN hat st hfn w
  show Seg _ B _ _ _ s₀ _ ((compStart (.GeneratorExp elt [⟨tg, iter, ifs, 0⟩] scope pos) 0 (.ref it) .none Z.env).onRaise (leaving Z.env)) [] s
  unfold compStart
  rw [Sem.onRaise_eq_wrap]
  show Seg _ B _ _ _ s₀ _ ((ask >>= _).wrap _ _ _ _) [] s
  refine seg_bind_wrap (wpAny_askSetting ?_)
  split
  · exact seg_again rfl loop
  · first
      | exact seg_bind_wrap (wpAny_rule (seg_bind_wrap (wpAny_standAt (seg_bind_wrap (T.self _ 0 s _ _ st (seg_again rfl loop))))))
      | (refine seg_bind_wrap (wpAny_rule ?_); show Seg _ B _ _ _ s₀ _ ((standAt iter.pos >>= _).wrap _ _ _ _) [] s; exact seg_bind_wrap (wpAny_standAt (seg_bind_wrap (T.self _ 0 s _ _ st (seg_again rfl loop)))))
/-- a generator at rest: n - 1 items at most are to come; ys are out -/
structure GxRest (Z : Cx) (B : Around) (own : List Addr) (OW : OwT) (YP : List V → V → Hp → Prop) (GD : List V → Hp → Prop) (N : Nat) (a : Addr) (g n : Nat) (ys : List V) (s : Shared) : Prop where
  lim : s.heap.NoLimit
  bare : AllBare s.gens
  gen : s.heap.IsGen a g
  pos : 0 < n
  len : n + ys.length = N
  go : ∃ gs, s.gens[g]? = some gs ∧ ∀ s', KeepO own OW ys s s' → gs.Goes (model Z.prog Z.w) B (GxR (GxF Z own OW GD N)) (GxY Z own OW YP N) n (.send .none) s'
theorem GxAt.more {ys : List V} {H : Hp} {s s' : Shared} (h : GxAt Z σ own OW ys H s) (hk : ∀ b o, s.heap.get? b = some o → s'.heap.get? b = some o) (ho : s'.os = s.os) (hb : AllBare s'.gens) : GxAt Z σ own OW ys H s' := by
  obtain ⟨op, w, e, I⟩ := h
  exact ⟨op, w, e, inv_gens (s := { s with heap := s'.heap }) (I.kept (t' := s.toks) hk) rfl ho hb⟩
theorem KeepO.refl' {ys : List V} {H : Hp} {s s' : Shared} (h : GxAt Z σ own OW ys H s) (hh : s'.heap = s.heap) (ho : s'.os = s.os) (hb : AllBare s'.gens) : KeepO own OW ys s s' := by
  obtain ⟨op, w, e, I⟩ := h
  exact ⟨ho, hb, fun b o _ q => by rw [hh]; exact q, op, w, e, fun p hp => by
    have q := I.pin p (List.mem_append_right _ hp)
    exact ⟨by rw [hh]; exact q.1, q.2.2.2.2⟩⟩
theorem gx_next {Q : Option Value → Shared → Prop} {E : Value → Shared → Prop} {A : Around} {a : Addr} {g n : Nat} {ys : List V} {s1 s : Shared} {go : Obj} (hh : A.handled = none) (hd : A.depth < recursionLimit) (r : GxRest Z A.in1 own OW YP GD N a g n ys s1) (k : KeepO own OW ys s1 s) (hg : s.gens = s1.gens) (ha : a ∉ own) (hst : cStatics ∉ own)
    (hpn : (a, go) ∈ Z.pn) (hgo : ∀ h : Heap, h.get? a = some go → h.IsGen a g)
    (hY : ∀ ys y v H σ' s2, n + ys.length = N → RelV y v → YP ys y H → GxAt Z σ' own OW ys H s2 → GxRest Z A.in1 own OW YP GD N a g (n - 1) (ys ++ [y]) s2 → Q (some v) s2)
    (hD : ∀ ys H σ' s2, n + ys.length = N → GD ys H → GxAt Z σ' own OW ys H s2 → Q none s2) : wpAny (model Z.prog Z.w) A (pyNext (.ref a)) Q E s := by
  obtain ⟨lim, bare, gen, pos, len, gs, hgs, goes⟩ := r
  have gen' : s.heap.IsGen a g := by
    obtain ⟨o, nm, qn, ho, q⟩ := gen
    exact ⟨o, nm, qn, k.keep a o ha ho, q⟩
  have lim' : s.heap.NoLimit := by
    obtain ⟨mc, hns, hnn⟩ := lim
    exact ⟨mc, hns.at' fun o e => k.keep _ o hst e, hnn⟩
  have hgs' : s.gens[g]? = some gs := by rw [hg]; exact hgs
  have hgl : g < s.gens.size := (Array.getElem?_eq_some_iff.mp hgs').1
  have goes' := goes (s.setGen g .running) ⟨k.os, allBare_setGen k.bare rfl, k.keep, k.ow⟩
  have genAt : ∀ {σ' : L2.St} {ys : List V} {H : Hp} {s2 : Shared}, GxAt Z σ' own OW ys H s2 → s2.heap.IsGen a g ∧ s2.heap.NoLimit ∧ AllBare s2.gens := fun {σ' ys H s2} h => by
    obtain ⟨op, _, _, I⟩ := h
    exact ⟨hgo _ (I.pin (a, go) (List.mem_append_left _ hpn)).1, I.nolimit, I.bare⟩
  refine wpAny_gsz (n := g + 1) hgl (next_genG (A := A) hh lim' hd gen' hgs' goes' (fun v s₁ gs' hbare hv => ?_) (fun s₁ hp h' hk => ?_) fun e s₁ he => he.elim)
  · intro hsz
    obtain ⟨ys2, y, H, σ', hn2, hlt2, rv, yp, at2, kap⟩ := hv
    obtain ⟨m, rfl⟩ : ∃ m, n = m + 1 := ⟨n - 1, by omega⟩
    have hsz1 : g < s₁.gens.size := by
      have q : (s₁.setGen g gs').gens.size = s₁.gens.size := setGen_size _ _ _
      omega
    have b2 : AllBare (s₁.setGen g gs').gens := allBare_setGen (genAt at2).2.2 hbare
    refine hY ys2 y v H σ' _ (by omega) rv yp (at2.more (fun b o e => e) rfl b2) ⟨(genAt at2).2.1, b2, (genAt at2).1, by omega, by rw [List.length_append, List.length_singleton]; omega, gs', setGen_at hsz1, fun s' k' => ?_⟩
    exact kap s' ⟨k'.os, k'.bare, k'.keep, k'.ow⟩
  · intro hsz
    obtain ⟨ys2, H, σ', hn2, gd, at2⟩ := hp
    exact hD ys2 H σ' _ hn2 gd (at2.more hk rfl (allBare_setGen (genAt at2).2.2 rfl))
end
/-- what the making of a generator gives -/
structure GxMade (X : Cx) (pins : List (Addr × Obj)) (σ : L2.St) (tg elt iter : Expr) (ifs : List Expr) (scope : Scope) (pos : Pos) (J : It) (H : Hp) (a : Addr) (s5 : Shared) : Prop where
  ex : ∃ (s4 : Shared) (it C : Addr) (fp : List Addr) (tn : Nat → Heap → Prop) (g : Nat) (code : Value) (go : Obj), Inv X pins σ H s4 ∧ Turn X.prog X.w X.K tg J fp it tn ∧ (∀ b ∈ fp, FpOk X pins H b ∧ b < s4.heap.objs.size) ∧ tn 0 s5.heap ∧ C = s4.heap.objs.size ∧ s4.heap.objs.size < a ∧ a < s5.heap.objs.size ∧
    s5.heap.get? a = some go ∧ (∀ h : Heap, h.get? a = some go → h.IsGen a g) ∧ (∀ v, go.data ≠ .cell v) ∧ s5.gens[g]? = some (.fresh (.compStart (.GeneratorExp elt [⟨tg, iter, ifs, 0⟩] scope pos) 0 (.ref it) .none (gxEnv X scope C code))) ∧ AllBare s5.gens ∧ s5.os = s4.os ∧
    (∀ b o, s4.heap.get? b = some o → s5.heap.get? b = some o) ∧ s5.heap.Ns C fun y => if y = ".0" then some (.ref it) else none
section
variable {X : Cx} {pins : List (Addr × Obj)} {σ : L2.St} {H : Hp} {s : Shared} {tg elt iter : Expr} {ifs : List Expr} {scope : Scope} {own : List (Str × Nat)} {pos : Pos} {wi : TI}
theorem gx_make {k : Nat} {c P : Addr} {RI : It → Hp → Prop} {Q : Value → Shared → Prop} (hr : Room k X.A) (TB : LamX.TabB X.base X.mg c P) (code : X.env.code = .ref c) (ok : GxS X.N X.env.scope scope own) (I : Inv X pins σ H s) (hi : PI X tg iter wi)
    (h : wi σ H fun J H1 => LamX.TabS H1 P (X.env.qual ++ "<genexpr>") ∧ RI J H1) (hs : ∀ x, genFold iter X.env x = pure x)
    (hQ : ∀ J H1 H2 a c' s5, RI J H1 → (H2 = H1 ∨ Noted P c' (X.env.qual ++ "<genexpr>") H1 H2) → GxMade X pins σ tg elt iter ifs scope pos J H2 a s5 → Q (.ref a) s5) : wpAny (model X.prog X.w) X.A (eval (.GeneratorExp elt [⟨tg, iter, ifs, 0⟩] scope pos) X.env) Q X.xe s := by
  have fr : ∀ y ∈ scope.names, y.2 = .free → ∃ c, X.env.cells.lookup y.1 = some c := fun y hy e => (ok.free _ hy e).elim (fun k => I.ok.has _ (.inl k)) fun k => I.ok.has _ (.inr k)
  refine wpAny_GeneratorExp_make ok.co (closure_ok fr) ok.nocell ok.dot ok.kind (by have := hr.dp; omega) ?_ hs
  refine thn (hi.run pins s σ H _ I h) fun xv s1 h1 => thn h1 fun itv s2 h2 => ?_
  obtain ⟨it, fp, tn, J, H1, e, I1, T, st, fpo, ⟨ps, eP, tri, among⟩, ri⟩ := h2
  subst e
  refine ⟨I1.nolimit, ?_⟩
  have gP : s2.heap.get? P = some { cls := .none, data := .fields ps } := I1.hok P _ eP
  have cd := TB.code.keeps I1.bk
  obtain ⟨bm, ob, b1, b2, b3, b4, b5, b6, b7, b8⟩ := TB.bm
  have sz : ∀ b ∈ fp, b < s2.heap.objs.size := fun b hb => by
    obtain ⟨o, e, _⟩ := T.obj _ _ st b hb
    exact Heap.lt_size e
  have nP : P ∉ fp := fun hb => by
    have q := (fpo P hb).1
    rw [eP] at q
    cases q
  -- behind the code object
  have rest : ∀ (code' : Value) (c' : Addr) (h3 : Heap) (tk : Nat) (H2 : Hp), Inv X pins σ H2 { s2 with heap := h3, toks := tk } → (H2 = H1 ∨ Noted P c' (X.env.qual ++ "<genexpr>") H1 H2) → (H2 = H1 ∨ s2.heap.objs.size ≤ c') → (∀ b o, b ≠ P → s2.heap.get? b = some o → h3.get? b = some o) → s2.heap.objs.size ≤ h3.objs.size →
      wpAny (model X.prog X.w) X.A (builtinsFor X.env.globals X.env.builtins) (fun bi s₄ => ∀ h', h'.Ns s₄.heap.objs.size (fun y => if y = ".0" then some (.ref it) else none) → Heap.SameBut s₄.heap.objs.size (s₄.heap.push { cls := .type "frame", data := .dict #[] }) h' →
        Q (.ref h'.objs.size) { s₄ with
          gens := s₄.gens.push (.fresh (.compStart (.GeneratorExp elt [⟨tg, iter, ifs, 0⟩] scope pos) 0 (.ref it) .none (genEnv scope (cloFrom X.env.cells scope.names []) s₄.heap.objs.size code' bi X.env))),
          toks := s₄.toks + 1 + 1 + 1,
          heap := h'.push { cls := .type "generator", data := .fields #[.int s₄.gens.size 0, .str "<genexpr>" (s₄.toks + 1), .str (X.env.qual ++ "<genexpr>") (s₄.toks + 1 + 1)] } }) X.xe { s2 with heap := h3, toks := tk } := by
    intro code' c' h3 tk H2 I2 nt hcz kp hsz
    have k2 : ∀ b u, X.base.get? b = some u → h3.get? b = some u := fun b u e => I2.bk b u e
    refine wpAny_builtinsFor (m := X.mg) (by rw [I2.ok.glob]; exact I2.mod.glob.keeps I2.bk) b1 b2 (k2 _ _ b5) b6 b7 b8 fun h' hns hsb => ?_
    have sz' : h'.objs.size = h3.objs.size + 1 := by rw [hsb.1, Heap.size_push]
    have kp' : ∀ b o, h3.get? b = some o → h'.get? b = some o := fun b o e => hsb.extBut b o (Nat.ne_of_lt (Heap.lt_size e)) (Heap.get?_push_of_some _ e)
    have fn2 : ∀ b ∈ fp, H2 b = none := fun b hb => by
      rcases nt with rfl | ⟨⟨qs, more, q1, q2, q3⟩, _⟩
      · exact (fpo b hb).1
      rcases hcz with rfl | hcz
      · exact (fpo b hb).1
      · rw [q3, upd_ne (fun z => Nat.lt_irrefl _ (Nat.lt_of_lt_of_le (sz b hb) (by rw [z]; exact hcz))), upd_ne (fun z => nP (by rw [← z]; exact hb))]
        exact (fpo b hb).1
    refine hQ J H1 H2 h'.objs.size c' _ ri nt ⟨⟨{ s2 with heap := h3, toks := tk }, it, h3.objs.size, fp, tn, s2.gens.size, code', _, I2, T, fun b hb => ⟨⟨fn2 b hb, (fpo b hb).2⟩, Nat.lt_of_lt_of_le (sz b hb) hsz⟩, T.keep _ _ _ st fun b hb o e => ?_, rfl, ?_, ?_, Heap.get?_push_size _ rfl, fun h e => ⟨_, _, _, e, rfl, rfl, rfl⟩, fun v z => ?_, Array.getElem?_push_size .., AllBare.push I2.bare rfl, rfl, fun b o e => Heap.get?_push_of_some _ (kp' b o e), hns.push _⟩⟩
    · exact Heap.get?_push_of_some _ (kp' b o (kp b o (fun z => nP (by rw [← z]; exact hb)) e))
    · show h3.objs.size < h'.objs.size
      omega
    · show h'.objs.size < (h'.push _).objs.size
      rw [Heap.size_push]
      exact Nat.lt_succ_self _
    · cases z
  cases am : codeAmong pos ps.toList with
  | some cv =>
    obtain ⟨a, ea, ka⟩ := among pos cv am
    subst ea
    exact wpAny_genexprCode_hit code (cd.code gP tri) am (rest (.ref a) a s2.heap s2.toks H1 I1 (.inl rfl) (.inl rfl) (fun b o _ e => e) (Nat.le_refl _))
  | none =>
    refine wpAny_genexprCodeX code (cd.code gP tri) (cd.tab gP) am fun a h' tk hx hge hlt _ hrec htab _ => ?_
    obtain ⟨a', oc, vs, t, ea, hoc, hd, hv⟩ := hrec
    cases ea
    have na : H1 a = none := I1.hok.fresh hge
    have J2 := LamX.inv_table (q := X.env.qual ++ "<genexpr>") (t' := tk) (more := #[rawInt pos.line, rawInt pos.col, .ref a]) (h' := h') I1 eP hx htab.2 hge ⟨oc, vs, t, hoc, hd, hv⟩
    have stay : ∀ b o, H1 b = some o → noTbl o → upd (upd H1 P (.tbl (ps ++ #[rawInt pos.line, rawInt pos.col, .ref a]))) a (LamX.CodeO a (X.env.qual ++ "<genexpr>")) b = some o := fun b o e nt => by
      rw [upd_ne (ne_of_none e na), upd_ne (fun z => nt ps (by rw [z, eP] at e; exact (Option.some.inj e).symm))]
      exact e
    refine rest (.ref a) a h' tk _ J2 (.inr ⟨⟨ps, _, eP, na, rfl⟩, _, by rw [upd_ne (ne_of_none eP na), upd_same], ?_, fun p cv hcv => ?_⟩) (.inr hge) hx (Nat.le_trans hge (Nat.le_of_lt hlt))
    · rw [show (ps ++ #[rawInt pos.line, rawInt pos.col, Value.ref a]).toList = ps.toList ++ [rawInt pos.line, rawInt pos.col, .ref a] by simp]
      exact PySem.TriplesOk_snoc _ _ _ _ tri
    · rw [show (ps ++ #[rawInt pos.line, rawInt pos.col, Value.ref a]).toList = ps.toList ++ [rawInt pos.line, rawInt pos.col, .ref a] by simp] at hcv
      rcases LamX.among_app _ tri hcv with z | z
      · obtain ⟨c0, e1, e2⟩ := among p cv z
        exact ⟨c0, e1, stay _ _ e2 LamX.codeO_ne⟩
      · exact ⟨a, z, upd_same⟩
end
end Z

/-! Z19: any, all of a generator expression -/
namespace Z
open PySem PySem.Spec PyProof.Rows L2 GenW

/-- what a generator expression hands out: each item with the heap behind it; the heap at the end -/
def genL (t : Tg) (tt : TM) (em : EM) (ρ : Rho) : List D → Hc → List (D × Hc) × Option Hc
  | [], h => ([], some h)
  | d :: ds, h => (match bindD t d ρ with
    | none => ([], none)
    | some ρ1 => (match tt ρ1 h with
      | .ok true h1 => (match em ρ1 h1 with
        | .ok y h2 => ((y, h2) :: (genL t tt em ρ ds h2).1, (genL t tt em ρ ds h2).2)
        | _ => ([], none))
      | .ok false h1 => genL t tt em ρ ds h1
      | _ => ([], none)))
def eGen {α : Type} (t : Tg) (vs : List Nat) (im : IM) (tt : TM) (em : EM) (k : List (D × Hc) → Hc → R α) : Rho → Hc → R α := fun ρ h => (im ρ h).bind fun ds h1 => if ds.length ≤ 16777216 then (match genL t tt em (wipeR ρ vs) ds h1 with
  | (yl, some hE) => k yl hE
  | _ => .bad) else .bad
section
variable {F : Fr} {X : Cx} {wx : WX} {σ : L2.St} {W W1 : Wd} {H H1 : Hp} {hp hpE : Hc} {ρ : Rho} {t : Tg} {vs : List Nat} {tt : TM} {em : EM} {ds : List D} {yl : List (D × Hc)} {J : It}
def ysD (yl : List (D × Hc)) (n : Nat) : List D := (yl.take n).map (·.1)
theorem ysD_succ {n : Nat} {d : D} {h : Hc} (e : yl[n]? = some (d, h)) : ysD yl (n + 1) = ysD yl n ++ [d] := by
  unfold ysD
  rw [List.take_add_one, List.map_append, e]
  rfl
def YPz (F : Fr) (W : Wd) (H : Hp) (yl : List (D × Hc)) : List V → V → Hp → Prop := fun ys y H' => ∃ W' d hp', yl[ys.length]? = some (d, hp') ∧ Ext W H W' H' ∧ St0 F.G W' H' hp' ∧ Reps F.G W' H' (ysD yl ys.length) ys ∧ Rep F.G W' H' d y
def GDz (F : Fr) (W : Wd) (H : Hp) (yl : List (D × Hc)) (hpE : Hc) : List V → Hp → Prop := fun ys H' => ∃ W', Ext W H W' H' ∧ St0 F.G W' H' hpE ∧ ys.length = yl.length ∧ Reps F.G W' H' (yl.map (·.1)) ys
def Wz (F : Fr) (W : Wd) (H : Hp) (t : Tg) (tt : TM) (em : EM) (ρ : Rho) (ds : List D) (yl : List (D × Hc)) (hpE : Hc) : GxW := fun i ys m H' => m = ds.length - i ∧ i ≤ ds.length ∧ ∃ W' hp', Ext W H W' H' ∧ St0 F.G W' H' hp' ∧ Reps F.G W' H' (ysD yl ys.length) ys ∧ ys.length ≤ yl.length ∧ genL t tt em ρ (ds.drop i) hp' = (yl.drop ys.length, some hpE)
theorem gx_turn (g : Gd F W ρ hp σ H) (it : ItOk F.G W H ds J) (ht : t.inn vs = true) (hyl : genL t tt em (wipeR ρ vs) ds hp = (yl, some hpE)) :
    tGx (TrG F t) (TrT F wx0 tt) (TrE F wx0 em) vs σ J (YPz F W H yl) (GDz F W H yl hpE) (yl.length + 2) (Wz F W H t tt em (wipeR ρ vs) ds yl hpE) ∧ Wz F W H t tt em (wipeR ρ vs) ds yl hpE 0 [] ds.length H := by
  refine ⟨?_, rfl, Nat.zero_le _, W, hp, Ext.refl _ _, g.st, rfl, Nat.zero_le _, by rw [List.drop_zero]; exact hyl⟩
  rintro i ys m H2 ⟨rfl, hi, W2, hp2, x2, s2, r2, hlen, e2⟩
  obtain ⟨it1, it2⟩ := it W2 H2 x2.toLk
  by_cases hlt : i < ds.length
  · refine .inr ?_
    obtain ⟨go, yld⟩ := it1 i ds[i] (List.getElem?_eq_getElem hlt)
    refine ⟨go, fun ys' H' => Wz F W H t tt em (wipeR ρ vs) ds yl hpE (i + 1) ys' (ds.length - (i + 1)) H', fun ys' H' q => ⟨ds.length - (i + 1), by omega, q⟩, fun x H3 y => ?_⟩
    obtain ⟨W3, x3, s3, r3⟩ := yld x H3 y
    rw [List.drop_eq_getElem_cons hlt] at e2
    simp only [genL] at e2
    split at e2
    · exact absurd (congrArg Prod.snd e2) (by simp)
    · rename_i ρ3 eb
      have s3 := s3 hp2 s2
      have x23 := x2.trans x3
      refine ⟨W3, wipeR ρ vs, hp2, ds[i], ρ3, (g.ext x23 s3).wipe vs, r3, eb, fun σ4 g4 o4 => ⟨(o4 vs ht).trans wipe_wipe, W3, ρ3, hp2, g4, ?_⟩⟩
      split at e2
      · rename_i h4 et
        rw [et]
        refine fun W4 b H4 x4 s4 eb => ?_
        subst eb
        rw [if_pos rfl]
        refine ⟨W4, ρ3, h4, g4.ext x4 s4, ?_⟩
        split at e2
        · rename_i yv h5 ee
          rw [ee]
          refine fun W5 v H5 x5 s5 r5 => ?_
          rw [Prod.mk.injEq] at e2
          obtain ⟨e3, e4⟩ := e2
          have hk : ys.length < yl.length := Classical.byContradiction fun z => by
            have q : yl.drop ys.length = [] := List.drop_eq_nil_of_le (Nat.le_of_not_lt z)
            rw [q] at e3
            cases e3
          rw [List.drop_eq_getElem_cons hk, List.cons.injEq] at e3
          have hget : yl[ys.length]? = some (yv, h5) := by rw [List.getElem?_eq_getElem hk, ← e3.1]
          have x35 := (x3.trans x4).trans x5
          have r5' := r2.ext x35.toLk
          refine ⟨by omega, ⟨W5, yv, h5, hget, x2.trans x35, s5, r5', r5⟩, rfl, hlt, W5, h5, x2.trans x35, s5, ?_, ?_, ?_⟩
          · rw [List.length_append, List.length_singleton, ysD_succ hget]
            exact r5'.append (Reps.one r5)
          · rw [List.length_append, List.length_singleton]
            exact hk
          · rw [List.length_append, List.length_singleton]
            exact Prod.ext e3.2 e4
        · exact absurd (congrArg Prod.snd e2) (by simp)
      · rename_i h4 et
        rw [et]
        refine fun W4 b H4 x4 s4 eb => ?_
        subst eb
        rw [if_neg Bool.false_ne_true]
        exact ⟨rfl, hlt, W4, h4, x23.trans x4, s4, r2.ext (x3.trans x4).toLk, hlen, e2⟩
      · exact absurd (congrArg Prod.snd e2) (by simp)
  · refine .inl ⟨it2 i (by omega), ?_⟩
    rw [List.drop_eq_nil_of_le (by omega)] at e2
    simp only [genL, Prod.mk.injEq, Option.some.injEq] at e2
    have hl : ys.length = yl.length := by
      have := congrArg List.length e2.1
      rw [List.length_drop, List.length_nil] at this
      omega
    refine ⟨W2, x2, by rw [← e2.2]; exact s2, hl, ?_⟩
    have : ysD yl ys.length = yl.map (·.1) := by unfold ysD; rw [hl, List.take_length]
    rw [← this]
    exact r2
end
/-! ### consumers that keep nothing -/
abbrev OW0 : OwT := fun _ op => op = []
theorem ow0 {ys : List V} : ∃ op : List (Addr × Obj), OW0 ys op ∧ op.map (·.1) = ([] : List Addr) ∧ ∀ p ∈ op, ∀ s' : Shared, s'.heap.get? p.1 = some p.2 ∧ ∀ v, p.2.data ≠ .cell v := ⟨[], rfl, rfl, fun p hp => absurd hp (by simp)⟩
theorem keep0 {ys : List V} {s : Shared} (hb : AllBare s.gens) : KeepO [] OW0 ys s s := ⟨rfl, hb, fun _ _ _ e => e, [], rfl, rfl, fun p hp => absurd hp (by simp)⟩
section
variable {Z : Cx} {YP : List V → V → Hp → Prop} {GD : List V → Hp → Prop} {N : Nat} {A : Around} {a : Addr} {g : Nat} {go : Obj} {R : Result → Shared → Prop} {CI : Nat → Prop}
theorem any_loop (hh : A.handled = none) (hd : A.depth < recursionLimit) (hpn : (a, go) ∈ Z.pn) (hgo : ∀ h : Heap, h.get? a = some go → h.IsGen a g)
    (step : ∀ ys y H σ' s2, CI ys.length → YP ys y H → GxAt Z σ' [] OW0 ys H s2 → ∃ b, y = .bl b ∧ (b = true → R (.ok (.ret (.bool true))) s2) ∧ (b = false → CI (ys.length + 1)))
    (fin : ∀ ys H σ' s2, CI ys.length → GD ys H → GxAt Z σ' [] OW0 ys H s2 → R (.ok (.ret (.bool false))) s2) :
    ∀ (n : Nat) (ys : List V) (s : Shared), GxRest Z A.in1.in1 [] OW0 YP GD N a g n ys s → CI ys.length → codeAny (model Z.prog Z.w) A (.builtin "any.loop" ⟨[.ref a], []⟩) R s := by
  intro n
  induction n with
  | zero => exact fun ys s r _ => absurd r.pos (Nat.lt_irrefl _)
  | succ n ih =>
    intro ys s r ci
    have hlen := r.len
    refine codeAny_builtin PySem.F.entry_any_loop ?_
    rw [Around.under_plainId PySem.F.plain_any_loop _]
    show wpAny _ A.in1 (pyNext (.ref a) >>= _) _ _ s
    refine wpAny_bind (gx_next (A := A.in1) hh hd r (keep0 r.bare) rfl (by simp) (by simp) hpn hgo (fun ys2 y v H σ' s2 hn rv yp at2 r2 => ?_) fun ys2 H σ' s2 hn gd at2 => ?_)
    · have el : ys2.length = ys.length := by omega
      obtain ⟨b, rfl, h1, h2⟩ := step ys2 y H σ' s2 (by rw [el]; exact ci) yp at2
      cases rv
      refine wpAny_bind (wpAny_holding (wpAny_truthy_bool ?_))
      refine wpAny_bind (wpAny_letGo ?_)
      cases b with
      | true => exact wpAny_bind (wpAny_rule (wpAny_pure (h1 rfl)))
      | false => exact wpAny_pure ⟨plainId_quiet PySem.F.plain_any_loop _, ih _ s2 r2 (by rw [List.length_append, List.length_singleton]; exact h2 rfl)⟩
    · have el : ys2.length = ys.length := by omega
      exact wpAny_bind (wpAny_rule (wpAny_pure (fin ys2 H σ' s2 (by rw [el]; exact ci) gd at2)))
theorem all_loop (hh : A.handled = none) (hd : A.depth < recursionLimit) (hpn : (a, go) ∈ Z.pn) (hgo : ∀ h : Heap, h.get? a = some go → h.IsGen a g)
    (step : ∀ ys y H σ' s2, CI ys.length → YP ys y H → GxAt Z σ' [] OW0 ys H s2 → ∃ b, y = .bl b ∧ (b = false → R (.ok (.ret (.bool false))) s2) ∧ (b = true → CI (ys.length + 1)))
    (fin : ∀ ys H σ' s2, CI ys.length → GD ys H → GxAt Z σ' [] OW0 ys H s2 → R (.ok (.ret (.bool true))) s2) :
    ∀ (n : Nat) (ys : List V) (s : Shared), GxRest Z A.in1.in1 [] OW0 YP GD N a g n ys s → CI ys.length → codeAny (model Z.prog Z.w) A (.builtin "all.loop" ⟨[.ref a], []⟩) R s := by
  intro n
  induction n with
  | zero => exact fun ys s r _ => absurd r.pos (Nat.lt_irrefl _)
  | succ n ih =>
    intro ys s r ci
    have hlen := r.len
    refine codeAny_builtin PySem.F.entry_all_loop ?_
    rw [Around.under_plainId PySem.F.plain_all_loop _]
    show wpAny _ A.in1 (pyNext (.ref a) >>= _) _ _ s
    refine wpAny_bind (gx_next (A := A.in1) hh hd r (keep0 r.bare) rfl (by simp) (by simp) hpn hgo (fun ys2 y v H σ' s2 hn rv yp at2 r2 => ?_) fun ys2 H σ' s2 hn gd at2 => ?_)
    · have el : ys2.length = ys.length := by omega
      obtain ⟨b, rfl, h1, h2⟩ := step ys2 y H σ' s2 (by rw [el]; exact ci) yp at2
      cases rv
      refine wpAny_bind (wpAny_holding (wpAny_truthy_bool ?_))
      refine wpAny_bind (wpAny_letGo ?_)
      cases b with
      | false => exact wpAny_bind (wpAny_rule (wpAny_pure (h1 rfl)))
      | true => exact wpAny_pure ⟨plainId_quiet PySem.F.plain_all_loop _, ih _ s2 r2 (by rw [List.length_append, List.length_singleton]; exact h2 rfl)⟩
    · have el : ys2.length = ys.length := by omega
      exact wpAny_bind (wpAny_rule (wpAny_pure (fin ys2 H σ' s2 (by rw [el]; exact ci) gd at2)))
end
end Z

/-! Z20: any(..), all(..) as expressions -/
namespace Z
open PySem PySem.Spec PyProof.Rows L2 GenW

section
variable {F : Fr} {X : Cx} {wx : WX} {σ : L2.St} {pins : List (Addr × Obj)} {W W1 : Wd} {H H1 : Hp} {hp hpE : Hc} {ρ : Rho} {t : Tg} {vs : List Nat} {im : IM} {tt : TM} {em : EM} {ds : List D} {yl : List (D × Hc)} {J : It} {s : Shared}
/-- a generator that was made, at rest in the state s of the consumer, whose own objects are own -/
structure GxOn (F : Fr) (X : Cx) (pins : List (Addr × Obj)) (σ : L2.St) (W : Wd) (H : Hp) (yl : List (D × Hc)) (hpE : Hc) (a : Addr) (B : Around) (own : List Addr) (OW : OwT) (s : Shared) : Prop where
  ex : ∃ (Z : Cx) (g : Nat) (go : Obj), Z.prog = X.prog ∧ Z.w = X.w ∧ (a, go) ∈ Z.pn ∧ (∀ h : Heap, h.get? a = some go → h.IsGen a g) ∧ (∀ σ' ys H' s', GxAt Z σ' own OW ys H' s' → Inv X pins σ H' s') ∧ a ∉ own ∧ cStatics ∉ own ∧
    GxRest Z B own OW (YPz F W H yl) (GDz F W H yl hpE) (yl.length + 2) a g (yl.length + 2) [] s
/-- as an around below the caller's -/
structure Below (X : Cx) (B : Around) : Prop where
  hd : B.handled = none
  fr : B.frames = X.A.frames
  dp : B.depth = X.A.depth
  un : B.units ≤ X.A.units + 8
/-- .. as it was made at s5: at rest for any consumer -/
def GxFresh (F : Fr) (X : Cx) (pins : List (Addr × Obj)) (σ : L2.St) (W : Wd) (H : Hp) (yl : List (D × Hc)) (hpE : Hc) (a : Addr) (s5 : Shared) : Prop :=
  ∀ (B : Around) (own : List Addr) (OW : OwT) (s6 : Shared), Below X B → (∀ b ∈ own, s5.heap.objs.size ≤ b) → (∀ b o, s5.heap.get? b = some o → s6.heap.get? b = some o) → s6.os = s5.os → s6.gens = s5.gens →
    (∃ op : List (Addr × Obj), OW [] op ∧ op.map (·.1) = own ∧ ∀ p ∈ op, s6.heap.get? p.1 = some p.2 ∧ ∀ v, p.2.data ≠ .cell v) → GxOn F X pins σ W H yl hpE a B own OW s6
/-- what a generator expression asks of its parts -/
structure GxP (F : Fr) (X : Cx) (k : Nat) (tg elt iter : Expr) (ifs : List Expr) (scope : Scope) (own : List (Str × Nat)) (P c : Addr) (t : Tg) (im : IM) (tt : TM) (em : EM) (wx : WX) : Prop where
  hr : Room (k + 1) X.A
  TB : LamX.TabB X.base X.mg c P
  code : X.env.code = .ref c
  tab : (P, X.env.qual ++ "<genexpr>") ∈ F.G.tl
  uni : ∀ p ∈ F.G.tl, p.1 = P → p.2 = X.env.qual ++ "<genexpr>"
  ok : GxS X.N X.env.scope scope own
  nd : X.N.Nodup
  inn : t.inn (own.map (·.2)) = true
  it : PI X tg iter (TrI F wx im)
  fold : ∀ x, genFold iter X.env x = pure x
  g : ∀ (B : Around) (s : Shared) (H : Hp) (C : Addr) (code : Value) (fp : List Addr) (pn : List (Addr × Obj)), Room k (B.deeper (gxEnv X scope C code)) → PG (gxCx X B s H (gxEnv X scope C code) fp pn) tg (TrG F t)
  t : ∀ (B : Around) (s : Shared) (H : Hp) (C : Addr) (code : Value) (fp : List Addr) (pn : List (Addr × Obj)), Room k (B.deeper (gxEnv X scope C code)) → PTs (gxCx X B s H (gxEnv X scope C code) fp pn) ifs (TrT F wx0 tt)
  e : ∀ (B : Around) (s : Shared) (H : Hp) (C : Addr) (code : Value) (fp : List Addr) (pn : List (Addr × Obj)), Room k (B.deeper (gxEnv X scope C code)) → PE (gxCx X B s H (gxEnv X scope C code) fp pn) elt (TrE F wx0 em)
theorem gx_eval0 {k : Nat} {tg elt iter : Expr} {ifs : List Expr} {scope : Scope} {own : List (Str × Nat)} {P c : Addr} {gpos : Pos} {α β : Type} {rel : Wd → Hp → α → β → Prop} {Qv : β → Hp → Prop} {kk : List (D × Hc) → Hc → R α} {Q : Value → Shared → Prop} (G : GxP F X k tg elt iter ifs scope own P c t im tt em wx)
    (I : Inv X pins σ H s) (g : Gd F W ρ hp σ H) (h : Fin F wx σ rel W H Qv (eGen t (own.map (·.2)) im tt em kk ρ hp))
    (k2 : ∀ (Wb : Wd) (Hb : Hp) (yl : List (D × Hc)) (hpE : Hc) (a : Addr) (g : Nat) (s5 : Shared), Ext W H Wb Hb → Fin F wx σ rel W H Qv (kk yl hpE) → s5.heap.IsGen a g → GxFresh F X pins σ Wb Hb yl hpE a s5 → Q (.ref a) s5) :
    wpAny (model X.prog X.w) X.A (eval (.GeneratorExp elt [⟨tg, iter, ifs, 0⟩] scope gpos) X.env) Q X.xe s := by
  obtain ⟨hr, TB, code, tab, uni, ok, nd, inn, hit, fold, hg, ht, he⟩ := G
  have hi : TrI F wx im σ H fun J H1 => LamX.TabS H1 P (X.env.qual ++ "<genexpr>") ∧ ∃ W1 hp1 ds yl hpE, Ext W H W1 H1 ∧ St0 F.G W1 H1 hp1 ∧ ItOk F.G W1 H1 ds J ∧ genL t tt em (wipeR ρ (own.map (·.2))) ds hp1 = (yl, some hpE) ∧ Fin F wx σ rel W H Qv (kk yl hpE) :=
    ⟨W, ρ, hp, g, Fin.bindN h fun ds hp1 W1 J H1 x1 s1 it h1 => ⟨s1.tl _ tab, W1, hp1, ds, by
      by_cases hl : ds.length ≤ 16777216
      case neg => rw [if_neg hl] at h1; exact h1.elim
      rw [if_pos hl] at h1
      cases z : genL t tt em (wipeR ρ (own.map (·.2))) ds hp1 with
      | mk yl e =>
        rw [z] at h1
        cases e with
        | none => exact h1.elim
        | some hpE => exact ⟨yl, hpE, x1, s1, it, rfl, h1⟩⟩⟩
  refine gx_make hr TB code ok I hit hi fold fun J H1 H2 a c' s5 ri nt made => ?_
  obtain ⟨W1, hp1, ds, yl, hpE, x1, s1, it, hyl, fin⟩ := ri
  have xs2 : Ext W1 H1 W1 H2 ∧ St0 F.G W1 H2 hp1 := by
    rcases nt with rfl | nt
    · exact ⟨Ext.refl _ _, s1⟩
    · exact nt.ext s1 uni
  obtain ⟨x2, s2⟩ := xs2
  have gb : Gd F W1 ρ hp1 σ H2 := g.ext (x1.trans x2) s2
  have it2 : ItOk F.G W1 H2 ds J := fun W' H' l => it W' H' (x2.toLk.trans l)
  obtain ⟨turn, w0⟩ := gx_turn gb it2 inn hyl
  obtain ⟨s4, itA, C, fp, tn, gn, code', go, I4, T, hfp, st, eC, hCa, ha5, hgo, hgen, hgd, hfr, hb, hos, kp, hns⟩ := made.ex
  refine k2 W1 H2 yl hpE a gn s5 (x1.trans x2) fin (hgen _ hgo) fun B oa OW s6 bl yng kp6 os6 gens6 hop => ?_
  obtain ⟨op, how, hmap, hop⟩ := hop
  have hrZ : Room k (B.deeper (gxEnv X scope C code')) := ⟨bl.hd, by have := hr.dp; show B.depth + 1 + 3 * k + 5 < _; rw [bl.dp]; omega, by have := hr.un; have := bl.un; show B.units + 3 + 16 * k + 200 < _; omega⟩
  have IZ : Inv (gxCx X B s4 H2 (gxEnv X scope C code') fp [(a, go)]) [] (wipe σ (own.map (·.2))) H2 s5 := by
    have q := gx_start (A := B) (h5 := s5.heap) (g5 := s5.gens) (d5 := s5.drawn) (tk := s5.toks) (code := code') I4 ok nd bl.hd (bl.fr.trans I.ok.frames) hfp eC hCa hns kp hgo hgd hb
    exact inv_gens q rfl hos hb
  have sz45 : s4.heap.objs.size ≤ s5.heap.objs.size := Nat.le_of_lt (Nat.lt_trans hCa ha5)
  have hb6 : AllBare s6.gens := by rw [gens6]; exact hb
  have IZ6 : Inv (gxCx X B s4 H2 (gxEnv X scope C code') fp [(a, go)]) op (wipe σ (own.map (·.2))) H2 s6 := by
    have q := inv_gens (s := { s5 with heap := s6.heap }) (s' := s6) (IZ.kept (t' := s5.toks) kp6) rfl os6 hb6
    refine q.pins_of fun p hp => ?_
    have hy : s5.heap.objs.size ≤ p.1 := yng _ (by rw [← hmap]; exact List.mem_map.mpr ⟨p, hp, rfl⟩)
    exact ⟨(hop p hp).1, IZ.hok.fresh hy, Nat.ne_of_gt (Nat.lt_of_lt_of_le IZ.lt hy), IZ.nofs hy, (hop p hp).2⟩
  have atZ : GxAt (gxCx X B s4 H2 (gxEnv X scope C code') fp [(a, go)]) (wipe σ (own.map (·.2))) oa OW [] H2 s6 := ⟨op, how, hmap, IZ6⟩
  have na : a ∉ oa := fun z => absurd (Nat.lt_of_lt_of_le ha5 (yng _ z)) (Nat.lt_irrefl _)
  have apZ : OwnApart (gxCx X B s4 H2 (gxEnv X scope C code') fp [(a, go)]) oa := ⟨fun b hb => Nat.le_trans sz45 (yng b hb), fun p hp z => by
      have e : p = (a, go) := List.mem_singleton.mp hp
      rw [e] at z
      exact na z, fun x c e z => by
      obtain ⟨v, ob, ho, _⟩ := IZ.cell x c e
      exact absurd (Nat.lt_of_lt_of_le (Heap.lt_size ho) (yng _ z)) (Nat.lt_irrefl _), fun b hb z => absurd (Nat.lt_of_lt_of_le (Nat.lt_of_lt_of_le (hfp b hb).2 sz45) (yng _ z)) (Nat.lt_irrefl _)⟩
  have nst : cStatics ∉ oa := fun z => by
    have hcl : cStatics < s5.heap.objs.size := let ⟨_, hn, _⟩ := IZ.nolimit; hn.lt
    exact absurd (Nat.lt_of_lt_of_le hcl (yng _ z)) (Nat.lt_irrefl _)
  refine ⟨gxCx X B s4 H2 (gxEnv X scope C code') fp [(a, go)], gn, go, rfl, rfl, List.mem_singleton.mpr rfl, hgen, fun σ' ys H' s' ⟨op, _, _, J'⟩ => ?_, na, nst, ?_⟩
  · exact I4.call' (ch := fp) J'.os J'.base J'.hok J'.bare fun b hb => ⟨(hfp b hb).1.2.2.2.1, (hfp b hb).1.2.1, (hfp b hb).1.2.2.2.2.1, (hfp b hb).1.2.2.2.2.2⟩
  · rw [← gens6] at hfr
    refine ⟨IZ6.nolimit, hb6, hgen _ (kp6 _ _ hgo), Nat.succ_pos _, rfl, _, hfr, fun s' k' => ⟨rfl, ?_⟩⟩
    exact gx_begin (Z := gxCx X B s4 H2 (gxEnv X scope C code') fp [(a, go)]) (B := B) (vs := own.map (·.2)) (σ := σ) T rfl rfl rfl rfl ok.co apZ (fun p hp z => by
        have e : p = (a, go) := List.mem_singleton.mp hp
        rw [e] at z
        exact absurd (Nat.lt_trans (hfp a z).2 hCa) (Nat.lt_irrefl _)) (hg _ _ _ _ _ _ _ hrZ) (ht _ _ _ _ _ _ _ hrZ) (he _ _ _ _ _ _ _ hrZ) turn (Nat.succ_pos _) (atZ.keep k' apZ)
      (T.keep _ _ _ st fun b hb o e => k'.keep b o (apZ.ex b hb) (kp6 _ _ e)) (fun b hb => (hfp b hb).1.1) w0
/-! ### any, all -/
def anyC : List (D × Hc) → Hc → R D
  | [], hE => .ok (.bl false) hE
  | (d, h) :: r, hE => match d with
    | .bl true => .ok (.bl true) h
    | .bl false => anyC r hE
    | _ => .bad
def allC : List (D × Hc) → Hc → R D
  | [], hE => .ok (.bl true) hE
  | (d, h) :: r, hE => match d with
    | .bl false => .ok (.bl false) h
    | .bl true => allC r hE
    | _ => .bad
def eAny (t : Tg) (vs : List Nat) (im : IM) (tt : TM) (em : EM) : EM := eGen t vs im tt em anyC
def eAll (t : Tg) (vs : List Nat) (im : IM) (tt : TM) (em : EM) : EM := eGen t vs im tt em allC
theorem e_any {k : Nat} {tg elt iter : Expr} {ifs : List Expr} {scope : Scope} {own : List (Str × Nat)} {P c : Addr} {p pos gpos : Pos} (G : GxP F X k tg elt iter ifs scope own P c t im tt em wx) (hm : X.mg "any" = none) (hg : L2.Gl X "any" := by rfl)
    (hst : starEach [.GeneratorExp elt [⟨tg, iter, ifs, 0⟩] scope gpos] X.env = (false, eval (.GeneratorExp elt [⟨tg, iter, ifs, 0⟩] scope gpos) X.env) :: starEach [] X.env := by rfl) :
    PE X (.Call (.Name "any" p) [.GeneratorExp elt [⟨tg, iter, ifs, 0⟩] scope gpos] [] pos) (TrE F wx (eAny t (own.map (·.2)) im tt em)) := by
  refine ⟨fun pins s σ H Q I ⟨W, ρ, hp, gd, h⟩ => ?_⟩
  refine wpAny_Call_Name_kw (ld_blt I hg hm boot_any ?_)
  refine PyProof.Rows.callWith_builtin1 ?_ hst (by rfl)
  rw [hst]
  show wpAny _ _ (spliced ((false, eval (.GeneratorExp elt [⟨tg, iter, ifs, 0⟩] scope gpos) X.env) :: backTo pos (starEach [] X.env))) _ _ s
  refine Calls.spliced_cons (gx_eval0 (gpos := gpos) G I gd h fun Wb Hb yl hpE a g0 s5 x fin hgen on => ?_)
  refine Calls.spliced_nil ?_
  obtain ⟨Z, g, go, e1, e2, hpn, hgo, back, _, _, rest⟩ := (on X.A.in1.in1 [] OW0 s5 ⟨G.hr.hd, rfl, rfl, by show X.A.units + 1 + 1 ≤ _; omega⟩ (fun b hb => absurd hb (by simp)) (fun _ _ e => e) rfl rfl ⟨[], rfl, rfl, fun p hp => absurd hp (by simp)⟩).ex
  refine PySem.call_function_tree PySem.F.kind_any PySem.F.plain_any PySem.F.entry_any (PySem.F.args_any1 _) ?_
  unfold Builtin.«any»
  refine wpAny_bind (m := oneArg "any" _) (wpAny_pure ?_)
  refine wpAny_bind (wpAny_pyIter_gen hgen ?_)
  refine wpAny_pure ⟨plainId_quiet PySem.F.plain_any_loop _, ?_⟩
  rw [← e1, ← e2]
  refine any_loop (CI := fun j => Fin F wx σ (Rep F.G) W H Q (anyC (yl.drop j) hpE)) G.hr.hd (by have := G.hr.dp; omega) hpn hgo (fun ys y H' σ' s2 ci yp at2 => ?_) (fun ys H' σ' s2 ci gd2 at2 => ?_) _ [] s5 rest fin
  · obtain ⟨W', d, hp', ey, x', st', ry, rd⟩ := yp
    have hk := (List.getElem?_eq_some_iff.mp ey).1
    rw [List.drop_eq_getElem_cons hk, (List.getElem?_eq_some_iff.mp ey).2] at ci
    cases d with
    | bl b =>
      cases rd
      refine ⟨b, rfl, fun eb => ?_, fun eb => ?_⟩
      · subst eb
        exact ⟨.bl true, H', back _ _ _ _ at2, rfl, ci W' _ H' (x.trans x') st' rfl⟩
      · subst eb
        exact ci
    | _ => exact ci.elim
  · obtain ⟨W', x', st', hl, rr⟩ := gd2
    rw [List.drop_eq_nil_of_le (Nat.le_of_eq hl.symm)] at ci
    exact ⟨.bl false, H', back _ _ _ _ at2, rfl, ci W' _ H' (x.trans x') st' rfl⟩
theorem e_all {k : Nat} {tg elt iter : Expr} {ifs : List Expr} {scope : Scope} {own : List (Str × Nat)} {P c : Addr} {p pos gpos : Pos} (G : GxP F X k tg elt iter ifs scope own P c t im tt em wx) (hm : X.mg "all" = none) (hg : L2.Gl X "all" := by rfl) (hbo : bootBuiltins "all" = some (.builtin "all") := by kernel_rfl)
    (hst : starEach [.GeneratorExp elt [⟨tg, iter, ifs, 0⟩] scope gpos] X.env = (false, eval (.GeneratorExp elt [⟨tg, iter, ifs, 0⟩] scope gpos) X.env) :: starEach [] X.env := by rfl) :
    PE X (.Call (.Name "all" p) [.GeneratorExp elt [⟨tg, iter, ifs, 0⟩] scope gpos] [] pos) (TrE F wx (eAll t (own.map (·.2)) im tt em)) := by
  refine ⟨fun pins s σ H Q I ⟨W, ρ, hp, gd, h⟩ => ?_⟩
  refine wpAny_Call_Name_kw (ld_blt I hg hm hbo ?_)
  refine PyProof.Rows.callWith_builtin1 ?_ hst (by rfl)
  rw [hst]
  show wpAny _ _ (spliced ((false, eval (.GeneratorExp elt [⟨tg, iter, ifs, 0⟩] scope gpos) X.env) :: backTo pos (starEach [] X.env))) _ _ s
  refine Calls.spliced_cons (gx_eval0 (gpos := gpos) G I gd h fun Wb Hb yl hpE a g0 s5 x fin hgen on => ?_)
  refine Calls.spliced_nil ?_
  obtain ⟨Z, g, go, e1, e2, hpn, hgo, back, _, _, rest⟩ := (on X.A.in1.in1 [] OW0 s5 ⟨G.hr.hd, rfl, rfl, by show X.A.units + 1 + 1 ≤ _; omega⟩ (fun b hb => absurd hb (by simp)) (fun _ _ e => e) rfl rfl ⟨[], rfl, rfl, fun p hp => absurd hp (by simp)⟩).ex
  refine PySem.call_function_tree PySem.F.kind_all PySem.F.plain_all PySem.F.entry_all (PySem.F.args_all1 _) ?_
  unfold Builtin.«all»
  refine wpAny_bind (m := oneArg "all" _) (wpAny_pure ?_)
  refine wpAny_bind (wpAny_pyIter_gen hgen ?_)
  refine wpAny_pure ⟨plainId_quiet PySem.F.plain_all_loop _, ?_⟩
  rw [← e1, ← e2]
  refine all_loop (CI := fun j => Fin F wx σ (Rep F.G) W H Q (allC (yl.drop j) hpE)) G.hr.hd (by have := G.hr.dp; omega) hpn hgo (fun ys y H' σ' s2 ci yp at2 => ?_) (fun ys H' σ' s2 ci gd2 at2 => ?_) _ [] s5 rest fin
  · obtain ⟨W', d, hp', ey, x', st', ry, rd⟩ := yp
    have hk := (List.getElem?_eq_some_iff.mp ey).1
    rw [List.drop_eq_getElem_cons hk, (List.getElem?_eq_some_iff.mp ey).2] at ci
    cases d with
    | bl b =>
      cases rd
      refine ⟨b, rfl, fun eb => ?_, fun eb => ?_⟩
      · subst eb
        exact ⟨.bl false, H', back _ _ _ _ at2, rfl, ci W' _ H' (x.trans x') st' rfl⟩
      · subst eb
        exact ci
    | _ => exact ci.elim
  · obtain ⟨W', x', st', hl, rr⟩ := gd2
    rw [List.drop_eq_nil_of_le (Nat.le_of_eq hl.symm)] at ci
    exact ⟨.bl true, H', back _ _ _ _ at2, rfl, ci W' _ H' (x.trans x') st' rfl⟩
end
end Z

/-! Z21: sum, tuple of a generator expression -/
namespace Z
open PySem PySem.Spec PyProof.Rows L2 GenW

def sumV : List V → Int
  | .int i :: r => i + sumV r
  | _ :: r => sumV r
  | [] => 0
theorem sumV_app : ∀ {ys : List V} {i : Int}, sumV (ys ++ [.int i]) = sumV ys + i
  | [], i => by simp [sumV]
  | y :: ys, i => by
    cases y <;> simp only [List.cons_append, sumV, sumV_app]
    omega
def inLong (i : Int) : Bool := decide (-(2 ^ 63) ≤ i) && decide (i < 2 ^ 63)
/-- the consumer's state: the sum so far -/
def OWs (S : Addr) : OwT := fun ys op => ∃ (t : Tok) (c : Nat), op = [(S, lstObj #[.int (sumV ys) t] c)]
/-- the consumer's list: what came so far -/
def OWl (S : Addr) : OwT := fun ys op => ∃ (acc : Array Value) (c : Nat), op = [(S, lstObj acc c)] ∧ Vals ys acc.toList
section
variable {Z : Cx} {YP : List V → V → Hp → Prop} {GD : List V → Hp → Prop} {N : Nat} {A : Around} {a S : Addr} {g : Nat} {go : Obj} {R : Result → Shared → Prop} {CI : List V → Prop}
theorem ow_at {σ' : L2.St} {own : List Addr} {OW : OwT} {ys : List V} {H : Hp} {s : Shared} (h : GxAt Z σ' own OW ys H s) : ∃ op, OW ys op ∧ op.map (·.1) = own ∧ ∀ p ∈ op, s.heap.get? p.1 = some p.2 ∧ ∀ v, p.2.data ≠ .cell v := by
  obtain ⟨op, w, e, I⟩ := h
  exact ⟨op, w, e, fun p hp => ⟨(I.pin p (List.mem_append_right _ hp)).1, (I.pin p (List.mem_append_right _ hp)).2.2.2.2⟩⟩
theorem sum_loop (hh : A.handled = none) (hd : A.depth < recursionLimit) (hpn : (a, go) ∈ Z.pn) (hgo : ∀ h : Heap, h.get? a = some go → h.IsGen a g) (ha : a ≠ S) (hS : cStatics ≠ S)
    (step : ∀ ys y H σ' s2, CI ys → YP ys y H → GxAt Z σ' [S] (OWs S) ys H s2 → ∃ i, y = .int i ∧ inLong i = true ∧ inLong (sumV ys + i) = true ∧ CI (ys ++ [y]))
    (hsum : ∀ ys ys', CI ys → CI ys' → ys.length = ys'.length → sumV ys = sumV ys')
    (same : ∀ ys ys' y H, YP ys' y H → CI ys → ys'.length = ys.length → CI ys') (sameD : ∀ ys ys' H, GD ys' H → CI ys → ys'.length = ys.length → CI ys')
    (fin : ∀ ys H σ' s2 t, CI ys → GD ys H → GxAt Z σ' [S] (OWs S) ys H s2 → R (.ok (.ret (.int (sumV ys) t))) s2) :
    ∀ (n : Nat) (ys : List V) (s1 s : Shared), GxRest Z A.in1.in1 [S] (OWs S) YP GD N a g n ys s1 → KeepO [S] (OWs S) ys s1 s → s.gens = s1.gens → CI ys → codeAny (model Z.prog Z.w) A (.builtin "sum.loop" ⟨[.ref a, .ref S, rawInt 0, rawInt 0], []⟩) R s := by
  intro n
  induction n with
  | zero => exact fun ys s1 s r _ _ _ => absurd r.pos (Nat.lt_irrefl _)
  | succ n ih =>
    intro ys s1 s r k eg ci
    have hlen := r.len
    have k' := k
    obtain ⟨_, _, _, op, ⟨t0, c0, eop⟩, _, hop⟩ := k'
    have hS0 := (hop (S, lstObj #[.int (sumV ys) t0] c0) (by rw [eop]; exact List.mem_singleton.mpr rfl)).1
    refine codeAny_builtin PySem.F.entry_sum_loop ?_
    rw [Around.under_plainId PySem.F.plain_sum_loop _]
    show wpAny _ A.in1 (seqItems? (.ref S) >>= _) _ _ s
    refine wpAny_bind (wpAny_seqItems hS0 rfl ?_)
    show wpAny _ A.in1 (tryCatch (pyNext (.ref a)) _ >>= _) _ _ s
    refine wpAny_bind (wpAny_tryCatch (gx_next (A := A.in1) hh hd r k eg (by simpa using ha) (by simpa using hS) hpn hgo (fun ys2 y v H σ' s2 hn rv yp at2 r2 => ?_) fun ys2 H σ' s2 hn gd at2 => ?_))
    · have el : ys2.length = ys.length := by omega
      have ci2 := same ys ys2 y H yp ci el
      obtain ⟨i, rfl, l1, l2, ci3⟩ := step ys2 y H σ' s2 ci2 yp at2
      obtain ⟨tv, rfl⟩ := rv
      have esum := hsum ys2 ys ci2 ci el
      obtain ⟨op2, ⟨t2, c2, eop2⟩, _, hop2⟩ := ow_at at2
      have hS2 := (hop2 (S, lstObj #[.int (sumV ys2) t2] c2) (by rw [eop2]; exact List.mem_singleton.mpr rfl)).1
      have hc : ((decide (-(2 ^ 63) ≤ i) && decide (i < 2 ^ 63)) && (decide (-(2 ^ 63) ≤ sumV ys + i) && decide (sumV ys + i < 2 ^ 63))) = true := by
        rw [← esum]
        unfold inLong at l1 l2
        rw [l1, l2]
        rfl
      have hb2 : AllBare s2.gens := r2.bare
      show wpAny _ A.in1 (if (_ : Bool) = true then (mkInt (sumV ys + i) >>= _) else _) _ _ _
      split
      · refine wpAny_bind (wpAny_mkInt ?_)
        show wpAny _ A.in1 (updateSeq S (fun _ => #[.int (sumV ys + i) s2.toks]) >>= _) _ _ _
        refine wpAny_bind ?_
        obtain ⟨c3, e3⟩ : ∃ c3, (s2.heap.update S (Obj.mapSeq fun _ => #[.int (sumV ys + i) s2.toks])).get? S = some (lstObj #[.int (sumV ys + i) s2.toks] c3) := ⟨_, Heap.get?_update_self _ hS2 rfl⟩
        refine wpAny_updateSeq hS2 rfl (wpAny_pure ⟨plainId_quiet PySem.F.plain_sum_loop _, ih _ s2 _ r2 ⟨rfl, hb2, fun b o hb e => ?_, [(S, lstObj #[.int (sumV ys + i) s2.toks] c3)], ⟨s2.toks, c3, ?_⟩, rfl, fun p hp => ?_⟩ rfl ci3⟩)
        · exact (Heap.get?_update_other _ _ (fun h : S = b => hb (by rw [h]; exact List.mem_singleton.mpr rfl))).trans e
        · rw [sumV_app, esum]
        · rw [List.mem_singleton.mp hp]
          exact ⟨e3, fun v z => by cases z⟩
      · rename_i hneg
        exact absurd hc hneg
    · have el : ys2.length = ys.length := by omega
      have ci2 := sameD ys ys2 H gd ci el
      rw [← hsum ys2 ys ci2 ci el]
      exact wpAny_pure (fin ys2 H σ' s2 t0 ci2 gd at2)
theorem ext_loop {res : Value} (hh : A.handled = none) (hd : A.depth < recursionLimit) (hpn : (a, go) ∈ Z.pn) (hgo : ∀ h : Heap, h.get? a = some go → h.IsGen a g) (ha : a ≠ S) (hS : cStatics ≠ S)
    (few : ∀ ys y H, YP ys y H → ys.length < sizeLine) (fin : ∀ ys H σ' s2, GD ys H → GxAt Z σ' [S] (OWl S) ys H s2 → R (.ok (.ret res)) s2) :
    ∀ (n : Nat) (ys : List V) (s1 s : Shared), GxRest Z A.in1.in1 [S] (OWl S) YP GD N a g n ys s1 → KeepO [S] (OWl S) ys s1 s → s.gens = s1.gens → codeAny (model Z.prog Z.w) A (.builtin "list.extend.loop" ⟨[.ref S, .ref a, res], []⟩) R s := by
  intro n
  induction n with
  | zero => exact fun ys s1 s r _ _ => absurd r.pos (Nat.lt_irrefl _)
  | succ n ih =>
    intro ys s1 s r k eg
    have hlen := r.len
    refine codeAny_builtin PySem.F.entry_extend_loop ?_
    rw [Around.under_plainId PySem.F.plain_extend_loop _]
    show wpAny _ A.in1 (pyNext (.ref a) >>= _) _ _ s
    refine wpAny_bind (gx_next (A := A.in1) hh hd r k eg (by simpa using ha) (by simpa using hS) hpn hgo (fun ys2 y v H σ' s2 hn rv yp at2 r2 => ?_) fun ys2 H σ' s2 hn gd at2 => wpAny_pure (fin ys2 H σ' s2 gd at2))
    obtain ⟨op2, ⟨acc, c2, eop2, va⟩, _, hop2⟩ := ow_at at2
    have hS2 := (hop2 (S, lstObj acc c2) (by rw [eop2]; exact List.mem_singleton.mpr rfl)).1
    have hb2 : AllBare s2.gens := r2.bare
    have hsz : acc.size < sizeLine := by
      have e1 := va.length
      have e2 : acc.toList.length = acc.size := by simp
      have := few ys2 y H yp
      omega
    show wpAny _ A.in1 (updateSeq S (·.push v) >>= _) _ _ _
    refine wpAny_bind ?_
    obtain ⟨c3, e3⟩ : ∃ c3, (s2.heap.update S (Obj.mapSeq (·.push v))).get? S = some (lstObj (acc.push v) c3) := ⟨_, Heap.get?_update_self _ hS2 rfl⟩
    refine wpAny_updateSeq hS2 rfl (wpAny_pure ⟨plainId_quiet PySem.F.plain_extend_loop _, ih _ s2 _ r2 ⟨rfl, hb2, fun b o hb e => ?_, [(S, lstObj (acc.push v) c3)], ⟨acc.push v, c3, rfl, ?_⟩, rfl, fun p hp => ?_⟩ rfl⟩) (Nat.le_of_lt hsz) (by show (acc.push v).size ≤ sizeLine + 1; rw [Array.size_push]; omega)
    · exact (Heap.get?_update_other _ _ (fun h : S = b => hb (by rw [h]; exact List.mem_singleton.mpr rfl))).trans e
    · rw [Array.toList_push]
      exact va.append (.cons rv .nil)
    · rw [List.mem_singleton.mp hp]
      exact ⟨e3, fun v z => by cases z⟩
end
section
variable {F : Fr} {X : Cx} {wx : WX} {σ : L2.St} {pins : List (Addr × Obj)} {W Wb : Wd} {H Hb : Hp} {hpE : Hc} {yl : List (D × Hc)} {s : Shared} {a : Addr} {g : Nat} {A : Around} {E : Value → Shared → Prop}
/-- all that comes, in a list -/
theorem gx_collect {Q : List Value → Shared → Prop} (on : GxFresh F X pins σ Wb Hb yl hpE a s) (hgen : s.heap.IsGen a g) (bl : Below X A.in1.in1) (hlim : A.depth < recursionLimit) (hal : a < s.heap.objs.size) (hb : AllBare s.gens) (few : yl.length < sizeLine)
    (hQ : ∀ us H' ys s', Vals ys us → GDz F Wb Hb yl hpE ys H' → Inv X pins σ H' s' → Q us s') : wpAny (model X.prog X.w) A (collect (.ref a)) Q E s := by
  have hSa : s.heap.objs.size ≠ a := Nat.ne_of_gt hal
  unfold collect
  refine wpAny_bind (wpAny_runValue (codeAny_builtin PySem.F.entry_proto_collect ?_))
  rw [Around.under_plainId PySem.F.plain_proto_collect _]
  show wpAny _ A.in1 (newList [] >>= fun l => again (.builtin "list.__iadd__" ⟨[l, .ref a], []⟩)) _ _ s
  refine wpAny_bind (wpAny_newObj_type ?_)
  refine wpAny_pure ⟨plainId_quiet PySem.F.plain_list_iadd _, codeAny_builtin PySem.F.entry_list_iadd ?_⟩
  rw [Around.under_plainId PySem.F.plain_list_iadd _]
  show wpAny _ A.in1 (Builtin.List.listExtendWith (.ref s.heap.objs.size) (.ref a) (.ref s.heap.objs.size)) _ _ _
  unfold Builtin.List.listExtendWith
  have gk : ∀ {h : Heap}, (∀ b o, s.heap.get? b = some o → h.get? b = some o) → h.IsGen a g := fun {h} q => hgen.keeps q
  have p0 : ∀ b o, s.heap.get? b = some o → (s.heap.push { cls := .type "list", data := .seq ([] : List Value).toArray }).get? b = some o := fun b o e => Heap.get?_push_of_some _ e
  refine wpAny_bind (wpAny_typeOf (Heap.IsGen.typeIs (s := { s with heap := _ }) (gk p0)) ?_)
  have h1 : Builtin.List.listSameRef (.ref s.heap.objs.size) (.ref a) = false := by simp [Builtin.List.listSameRef, hSa]
  have h2 : (Value.type "generator" == Value.type "list") = false := by decide
  have h3 : (Value.type "generator" == Value.type "tuple") = false := by decide
  simp only [h1, h2, h3, Bool.or_false, Bool.false_eq_true, if_false]
  refine wpAny_bind (wpAny_pyIter_gen (s := { s with heap := _ }) (gk p0) ?_)
  refine wpAny_bind (wpAny_holding ?_)
  unfold Builtin.List.listLengthHint
  refine wpAny_bind (wpAny_specialOf (Heap.IsGen.typeIs (s := { s with heap := _ }) (gk p0)) PySem.F.gen_no_len ?_)
  show wpAny _ A.in1 (specialOf (Value.ref a) (Str.ofString "__length_hint__") >>= _) _ _ _
  refine wpAny_bind (wpAny_specialOf (Heap.IsGen.typeIs (s := { s with heap := _ }) (gk p0)) PySem.F.gen_no_hint ?_)
  refine wpAny_pure ?_
  show wpAny _ A.in1 (rule "list.extend.makes-room" >>= fun _ => Builtin.List.listTouch (.ref s.heap.objs.size) >>= fun _ =>
    again (.builtin "list.extend.loop" ⟨[.ref s.heap.objs.size, .ref a, .ref s.heap.objs.size], []⟩)) _ _ _
  refine wpAny_bind (wpAny_rule ?_)
  have q1 : (s.heap.push { cls := .type "list", data := .seq ([] : List Value).toArray }).get? s.heap.objs.size = some { cls := .type "list", data := .seq ([] : List Value).toArray } := Heap.get?_push_size _ rfl
  refine wpAny_bind ?_
  show wpAny _ A.in1 (updateSeq s.heap.objs.size (·.push .none) >>= fun _ => updateSeq s.heap.objs.size (·.pop)) _ _ _
  refine wpAny_bind (wpAny_updateSeq q1 rfl ?_)
  have q2 := Heap.get?_update_self (Obj.mapSeq (·.push Value.none)) q1 rfl
  refine wpAny_updateSeq q2 rfl ?_
  obtain ⟨c3, q3⟩ : ∃ c3, (((s.heap.push { cls := .type "list", data := .seq ([] : List Value).toArray }).update s.heap.objs.size (Obj.mapSeq (·.push Value.none))).update s.heap.objs.size (Obj.mapSeq (·.pop))).get? s.heap.objs.size = some (lstObj #[] c3) :=
    ⟨_, Heap.get?_update_self (Obj.mapSeq (·.pop)) q2 rfl⟩
  have kp : ∀ b o, s.heap.get? b = some o → (((s.heap.push { cls := .type "list", data := .seq ([] : List Value).toArray }).update s.heap.objs.size (Obj.mapSeq (·.push Value.none))).update s.heap.objs.size (Obj.mapSeq (·.pop))).get? b = some o := fun b o e => by
    have nb : s.heap.objs.size ≠ b := Nat.ne_of_gt (Heap.lt_size e)
    exact (Heap.get?_update_other _ _ nb).trans ((Heap.get?_update_other _ _ nb).trans (p0 b o e))
  obtain ⟨Z, g', go, e1, e2, hpn, hgo, back, na, nst, rest⟩ := (on A.in1.in1 [s.heap.objs.size] (OWl s.heap.objs.size) { s with heap := _ } bl (fun b hb => Nat.le_of_eq (List.mem_singleton.mp hb).symm) kp rfl rfl ⟨[(s.heap.objs.size, lstObj #[] c3)], ⟨#[], c3, rfl, .nil⟩, rfl, fun p hp => by rw [List.mem_singleton.mp hp]; exact ⟨q3, fun v z => by cases z⟩⟩).ex
  rw [← e1, ← e2]
  refine wpAny_pure ⟨plainId_quiet PySem.F.plain_extend_loop _, ?_⟩
  refine ext_loop (A := A) (S := s.heap.objs.size) (a := a) (res := .ref s.heap.objs.size) bl.hd hlim hpn hgo (fun z => na (by rw [z]; exact List.mem_singleton.mpr rfl)) (fun z => nst (by rw [z]; exact List.mem_singleton.mpr rfl)) (fun ys y H' yp => ?_) (fun ys H' σ' s2 gd at2 => ?_) _ [] _ _ rest ⟨rfl, hb, fun _ _ _ e => e, [(s.heap.objs.size, lstObj #[] c3)], ⟨#[], c3, rfl, .nil⟩, rfl, fun p hp => by rw [List.mem_singleton.mp hp]; exact ⟨q3, fun v z => by cases z⟩⟩ rfl
  · obtain ⟨_, _, _, ey, _⟩ := yp
    exact Nat.lt_trans (List.getElem?_eq_some_iff.mp ey).1 few
  · obtain ⟨op2, ⟨acc, c2, eop2, va⟩, _, hop2⟩ := ow_at at2
    have hS2 := (hop2 (s.heap.objs.size, lstObj acc c2) (by rw [eop2]; exact List.mem_singleton.mpr rfl)).1
    show wpAny _ A (load s.heap.objs.size >>= _) _ _ s2
    refine wpAny_bind (wpAny_load hS2 ?_)
    exact wpAny_pure (hQ acc.toList H' ys s2 va gd (back _ _ _ _ at2))
end
end Z

/-! Z22: tuple(..) and sum(..) of a generator expression, as expressions -/
namespace Z
open PySem PySem.Spec PyProof.Rows L2 GenW

section
variable {F : Fr} {X : Cx} {wx : WX} {σ : L2.St} {pins : List (Addr × Obj)} {W W1 : Wd} {H H1 : Hp} {hp hpE : Hc} {ρ : Rho} {t : Tg} {vs : List Nat} {im : IM} {tt : TM} {em : EM} {ds : List D} {yl : List (D × Hc)} {J : It} {s : Shared}
def tupC (yl : List (D × Hc)) (hE : Hc) : R D := if yl.length < 16777216 then .ok (.tup (yl.map (·.1))) hE else .bad
def eTupG (t : Tg) (vs : List Nat) (im : IM) (tt : TM) (em : EM) : EM := eGen t vs im tt em tupC
def sumC : Int → List (D × Hc) → Hc → R D
  | acc, [], hE => .ok (.int acc) hE
  | acc, (d, _) :: r, hE => match d with
    | .int i => if (inLong i && inLong (acc + i)) = true then sumC (acc + i) r hE else .bad
    | _ => .bad
def eSumG (t : Tg) (vs : List Nat) (im : IM) (tt : TM) (em : EM) : EM := eGen t vs im tt em (sumC 0)
theorem e_tupG {k : Nat} {tg elt iter : Expr} {ifs : List Expr} {scope : Scope} {own : List (Str × Nat)} {P c : Addr} {p pos gpos : Pos} (G : GxP F X k tg elt iter ifs scope own P c t im tt em wx) (hm : X.mg "tuple" = none) (hg : L2.Gl X "tuple" := by rfl) (hbo : bootBuiltins "tuple" = some (.type "tuple") := by kernel_rfl)
    (hst : starEach [.GeneratorExp elt [⟨tg, iter, ifs, 0⟩] scope gpos] X.env = (false, eval (.GeneratorExp elt [⟨tg, iter, ifs, 0⟩] scope gpos) X.env) :: starEach [] X.env := by rfl) :
    PE X (.Call (.Name "tuple" p) [.GeneratorExp elt [⟨tg, iter, ifs, 0⟩] scope gpos] [] pos) (TrE F wx (eTupG t (own.map (·.2)) im tt em)) := by
  refine ⟨fun pins s σ H Q I ⟨W, ρ, hp, gd, h⟩ => ?_⟩
  refine wpAny_Call_Name_kw (ld_blt I hg hm hbo ?_)
  rw [hst]
  refine PySem.callWith_type1 (gx_eval0 (gpos := gpos) G I gd h fun Wb Hb yl hpE a g0 s5 x fin hgen on => ?_)
  have hl : yl.length < 16777216 := by
    unfold tupC at fin
    split at fin
    · assumption
    · exact fin.elim
  have fin' : Fin F wx σ (Rep F.G) W H Q (.ok (.tup (yl.map (·.1))) hpE) := by
    unfold tupC at fin
    rw [if_pos hl] at fin
    exact fin
  have hTI : s5.TypeIs (.ref a) "generator" := hgen.typeIs
  refine PySem.callType_codes (Q₁ := fun obj s₁ => s₁.TypeIs obj "tuple" ∧ ∃ (v : V) (H' : Hp), Inv X pins σ H' s₁ ∧ RelV v obj ∧ Q v H') PySem.F.called_tuple (PySem.F.typeCall_tuple_1 _) PySem.F.entry_object_init ?_ fun obj s₁ h₁ =>
    ⟨h₁.1, PySem.F.args_object_init_2 obj _, PySem.object_init_meets PySem.F.called_tuple.init.lookup PySem.F.called_tuple.made (by decide) X.prog X.w X.A.in1 _ s₁ ⟨h₁.1, rfl, h₁.2⟩⟩
  refine codeAny_of_tree ?_
  refine wpAny_bind (wpAny_of_eq (PySem.F.newCall_tuple_1 _) (wpAny_pure ⟨plainId_quiet PySem.F.plain_tuple_new _, codeAny_builtin PySem.F.entry_tuple_new ?_⟩))
  rw [Around.under_plainId PySem.F.plain_tuple_new _]
  have hsub := sub_tuple_self
  have hinit := init_tuple_lookup
  have hmh := madeHere_tuple
  have hlim : X.A.in1.in1.depth < recursionLimit := by have := G.hr.dp; show X.A.depth < _; omega
  have hb5 : AllBare s5.gens := by
    obtain ⟨Z, g, go, _, _, _, _, _, _, _, rest⟩ := (on X.A.in1.in1 [] OW0 s5 ⟨G.hr.hd, rfl, rfl, by show X.A.units + 1 + 1 ≤ _; omega⟩ (fun b hb => absurd hb (by simp)) (fun _ _ e => e) rfl rfl ⟨[], rfl, rfl, fun p hp => absurd hp (by simp)⟩).ex
    exact rest.bare
  have hal : a < s5.heap.objs.size := by
    obtain ⟨o, _, _, ho, _⟩ := hgen
    exact Heap.lt_size ho
  have col : ∀ {E : Value → Shared → Prop} {Q : List Value → Shared → Prop}, (∀ us H' ys s', Vals ys us → GDz F Wb Hb yl hpE ys H' → Inv X pins σ H' s' → Q us s') → wpAny (model X.prog X.w) X.A.in1.in1 (collect (.ref a)) Q E s5 :=
    fun {_ _} h => gx_collect (F := F) (X := X) (A := X.A.in1.in1) on hgen ⟨G.hr.hd, rfl, rfl, by show X.A.units + 1 + 1 + 1 + 1 ≤ _; omega⟩ hlim hal hb5 hl h
  wp_walk using wpAny_typeOf hTI, col
  intro us H' ys s' va gd2 I'
  obtain ⟨W', x', st', hlen, rr⟩ := gd2
  show wpAny _ _ (Builtin.Tuple.tupleExact us.toArray >>= fun v => ret v) _ _ _
  unfold Builtin.Tuple.tupleExact
  have hz : us.length ≤ sizeLine := by
    rw [show us.length = ys.length from va.length.symm, hlen]
    exact Nat.le_of_lt hl
  refine wpAny_bind (wpAny_newObj_type ?_ (by show us.toArray.size ≤ sizeLine; rw [List.size_toArray]; exact hz))
  refine wpAny_pure ?_
  refine ⟨⟨_, Heap.get?_push_size _ rfl, rfl⟩, .ref s'.heap.objs.size, upd H' s'.heap.objs.size (.tup ys), ?_, rfl, Fin.mkTup st' (I'.hok.fresh (Nat.le_refl _)) rr (fin'.ext (x.trans x'))⟩
  exact I'.laid (t' := s'.toks) (fun b o e => Heap.get?_push_of_some _ e) (Nat.le_refl _) (show ObjOk X.prog X.w _ _ _ (.tup ys) from ⟨by rw [hlen]; exact Nat.le_of_lt hl, us, va, IsTup.new _ _⟩)
theorem ysD_map {yl : List (D × Hc)} : ysD yl yl.length = yl.map (·.1) := by
  unfold ysD
  rw [List.take_length]
theorem ints_app : ∀ {ds : List D} {ns : List Int} {i : Int}, ints? ds = some ns → ints? (ds ++ [.int i]) = some (ns ++ [i])
  | [], _, _, e => by cases e; rfl
  | .int j :: ds, _, i, e => by
    simp only [ints?, Option.map_eq_some_iff] at e
    obtain ⟨ms, e1, rfl⟩ := e
    show (ints? (ds ++ [.int i])).map (j :: ·) = _
    rw [ints_app e1]
    rfl
theorem sumV_ints : ∀ (ns : List Int), sumV (ns.map V.int) = ns.sum
  | [] => rfl
  | n :: ns => by
    show n + sumV (ns.map V.int) = _
    rw [sumV_ints ns, List.sum_cons]
def SumI (F : Fr) (wx : WX) (σ : L2.St) (W : Wd) (H : Hp) (Q : VK) (yl : List (D × Hc)) (hpE : Hc) (ys : List V) : Prop :=
  ∃ ns : List Int, ints? (ysD yl ys.length) = some ns ∧ sumV ys = ns.sum ∧ Fin F wx σ (Rep F.G) W H Q (sumC ns.sum (yl.drop ys.length) hpE)
theorem sumI_same {Q : VK} {G : Gl} {W2 : Wd} {H2 : Hp} {ys ys' : List V} (r : Reps G W2 H2 (ysD yl ys'.length) ys') (c : SumI F wx σ W H Q yl hpE ys) (e : ys'.length = ys.length) : SumI F wx σ W H Q yl hpE ys' := by
  obtain ⟨ns, e1, e2, f⟩ := c
  have e3 := ints_rep (by rw [e]; exact e1) r
  exact ⟨ns, by rw [e]; exact e1, by rw [e3, sumV_ints], by rw [e]; exact f⟩
theorem e_sumG {k : Nat} {tg elt iter : Expr} {ifs : List Expr} {scope : Scope} {own : List (Str × Nat)} {P c : Addr} {p pos gpos : Pos} (G : GxP F X k tg elt iter ifs scope own P c t im tt em wx) (hm : X.mg "sum" = none) (hg : L2.Gl X "sum" := by rfl)
    (hst : starEach [.GeneratorExp elt [⟨tg, iter, ifs, 0⟩] scope gpos] X.env = (false, eval (.GeneratorExp elt [⟨tg, iter, ifs, 0⟩] scope gpos) X.env) :: starEach [] X.env := by rfl) :
    PE X (.Call (.Name "sum" p) [.GeneratorExp elt [⟨tg, iter, ifs, 0⟩] scope gpos] [] pos) (TrE F wx (eSumG t (own.map (·.2)) im tt em)) := by
  refine ⟨fun pins s σ H Q I ⟨W, ρ, hp, gd, h⟩ => ?_⟩
  refine wpAny_Call_Name_kw (ld_blt I hg hm boot_sum ?_)
  refine PyProof.Rows.callWith_builtin1 ?_ hst (by rfl)
  rw [hst]
  show wpAny _ _ (spliced ((false, eval (.GeneratorExp elt [⟨tg, iter, ifs, 0⟩] scope gpos) X.env) :: backTo pos (starEach [] X.env))) _ _ s
  refine Calls.spliced_cons (gx_eval0 (gpos := gpos) G I gd h fun Wb Hb yl hpE a g0 s5 x fin hgen on => ?_)
  refine Calls.spliced_nil ?_
  have hal : a < s5.heap.objs.size := by
    obtain ⟨o, _, _, ho, _⟩ := hgen
    exact Heap.lt_size ho
  have hSa : a ≠ s5.heap.objs.size := Nat.ne_of_lt hal
  have p0 : ∀ b o, s5.heap.get? b = some o → (s5.heap.push { cls := .type "list", data := .seq #[.int 0 s5.toks] }).get? b = some o := fun b o e => Heap.get?_push_of_some _ e
  have q0 : (s5.heap.push { cls := .type "list", data := .seq #[.int 0 s5.toks] }).get? s5.heap.objs.size = some (lstObj #[.int 0 s5.toks] 0) := Heap.get?_push_size _ rfl
  refine PySem.call_function_tree PySem.F.kind_sum PySem.F.plain_sum PySem.F.entry_sum (PySem.F.args_sum1 _) ?_
  unfold Builtin.«sum»
  simp only [List.length_cons, List.length_nil]
  rw [if_neg (by decide)]
  refine wpAny_bind (wpAny_of_eq (show Builtin.Builtins.bindParams "sum" ["start"] 0 { } = pure [none] from rfl) ?_)
  refine wpAny_bind (wpAny_pyIter_gen hgen ?_)
  refine wpAny_bind (wpAny_mkInt ?_)
  refine wpAny_bind (wpAny_pure ?_)
  simp only [List.forIn_cons, List.forIn_nil]
  refine wpAny_bind (wpAny_bind (wpAny_bind (wpAny_isInstance (T := "int") (b := false) (typeIs_int _ _ _) PySem.sub_int_str ?_)))
  simp only [Bool.false_eq_true, if_false]
  refine wpAny_pure (wpAny_bind (wpAny_bind (wpAny_isInstance (T := "int") (b := false) (typeIs_int _ _ _) PySem.sub_int_bytes ?_)))
  simp only [Bool.false_eq_true, if_false]
  refine wpAny_pure (wpAny_bind (wpAny_bind (wpAny_isInstance (T := "int") (b := false) (typeIs_int _ _ _) PySem.sub_int_bytearray ?_)))
  simp only [Bool.false_eq_true, if_false]
  refine wpAny_pure (wpAny_pure ?_)
  refine wpAny_bind (wpAny_newObj_type ?_)
  refine wpAny_pure ⟨plainId_quiet PySem.F.plain_sum_loop _, ?_⟩
  obtain ⟨Z, g, go, e1, e2, hpn, hgo, back, na, nst, rest⟩ := (on X.A.in1.in1 [s5.heap.objs.size] (OWs s5.heap.objs.size) { s5 with heap := s5.heap.push { cls := .type "list", data := .seq #[.int 0 s5.toks] }, toks := s5.toks + 1 } ⟨G.hr.hd, rfl, rfl, by show X.A.units + 1 + 1 ≤ _; omega⟩ (fun b hb => Nat.le_of_eq (List.mem_singleton.mp hb).symm) p0 rfl rfl
    ⟨[(s5.heap.objs.size, lstObj #[.int 0 s5.toks] 0)], ⟨s5.toks, 0, rfl⟩, rfl, fun p hp => by rw [List.mem_singleton.mp hp]; exact ⟨q0, fun v z => by cases z⟩⟩).ex
  rw [← e1, ← e2]
  have hb5 : AllBare s5.gens := rest.bare
  refine sum_loop (A := X.A) (CI := SumI F wx σ W H Q yl hpE) G.hr.hd (by have := G.hr.dp; omega) hpn hgo hSa (fun z => nst (by rw [z]; exact List.mem_singleton.mpr rfl)) (fun ys y H' σ' s2 ci yp at2 => ?_) (fun ys ys' ci ci' e => ?_) (fun ys ys' y H' yp ci e => ?_) (fun ys ys' H' gd2 ci e => ?_) (fun ys H' σ' s2 t ci gd2 at2 => ?_) _ [] _ _ rest ⟨rfl, hb5, fun _ _ _ e => e, [(s5.heap.objs.size, lstObj #[.int 0 s5.toks] 0)], ⟨s5.toks, 0, rfl⟩, rfl, fun p hp => by rw [List.mem_singleton.mp hp]; exact ⟨q0, fun v z => by cases z⟩⟩ rfl ⟨[], rfl, rfl, fin⟩
  · obtain ⟨ns, e1, e2, f⟩ := ci
    obtain ⟨W', d, hp', ey, x', st', ry, rd⟩ := yp
    have hk := (List.getElem?_eq_some_iff.mp ey).1
    rw [List.drop_eq_getElem_cons hk, (List.getElem?_eq_some_iff.mp ey).2] at f
    cases d with
    | int i =>
      cases rd
      have f1 : Fin F wx σ (Rep F.G) W H Q (if (inLong i && inLong (ns.sum + i)) = true then sumC (ns.sum + i) (yl.drop (ys.length + 1)) hpE else .bad) := f
      split at f1
      · rename_i hc
        have hc' := Bool.and_eq_true_iff.mp hc
        refine ⟨i, rfl, hc'.1, by rw [e2]; exact hc'.2, ns ++ [i], ?_, ?_, ?_⟩
        · rw [List.length_append]
          show ints? (ysD yl (ys.length + 1)) = _
          rw [ysD_succ ey]
          exact ints_app e1
        · rw [sumV_app, e2, List.sum_append]
          simp
        · rw [List.length_append, show (ns ++ [i]).sum = ns.sum + i by rw [List.sum_append]; simp]
          exact f1
      · exact f1.elim
    | _ => exact f.elim
  · obtain ⟨ns, a1, a2, _⟩ := ci
    obtain ⟨ms, b1, b2, _⟩ := ci'
    rw [e] at a1
    rw [a1] at b1
    cases b1
    rw [a2, b2]
  · obtain ⟨_, _, _, _, _, _, ry, _⟩ := yp
    exact sumI_same ry ci e
  · obtain ⟨_, _, _, hl, rr⟩ := gd2
    exact sumI_same (by rw [hl, ysD_map]; exact rr) ci e
  · obtain ⟨ns, a1, a2, f⟩ := ci
    obtain ⟨W', x', st', hl, rr⟩ := gd2
    rw [List.drop_eq_nil_of_le (Nat.le_of_eq hl.symm)] at f
    exact ⟨.int ns.sum, H', back _ _ _ _ at2, ⟨t, by rw [a2]⟩, f W' _ H' (x.trans x') st' rfl⟩
end
end Z

/-! Z23: three at once; a def told of with its table; the def that catches; the ends of a recursion; lambdas of a text -/
namespace Z
open PySem PySem.Spec PyProof.Rows L2

section
variable {F : Fr} {X : Cx} {wx : WX} {σ : L2.St} {W : Wd} {H : Hp} {hp : Hc} {ρ : Rho} {k : Nat}
theorem takes0 : Takes X wx0 := fun u s' ⟨a, B, sI, pins, σ, H, cls, d, e, I, nb, up, sky, na, os, ag, w⟩ => w.elim
def sPar3 (i j l : Nat) (a b c : EM) : SM := fun ρ h => (a ρ h).toS ρ fun x h1 => (b ρ h1).toS ρ fun y h2 => (c ρ h2).toS ρ fun z h3 => .nx (((ρ.set i (.v x)).set j (.v y)).set l (.v z)) h3
theorem par3_imp {i j l : Nat} {a b c : EM} {D : Ends} (h : TrS F wx (sPar3 i j l a b c) D σ H) : tPar3 i j l (tCons (TrE F wx a) (tCons (TrE F wx b) (tCons (TrE F wx c) tNil))) D σ H := by
  obtain ⟨W, ρ, hp, g, h⟩ := h
  refine ⟨W, ρ, hp, g, FinS.bind g h fun x hp1 W1 v H1 x1 g1 r1 h1 => ⟨W1, ρ, hp1, g1, FinS.bind g1 h1 fun y hp2 W2 u H2 x2 g2 r2 h2 => ⟨W2, ρ, hp2, g2, FinS.bind g2 h2 fun z hp3 W3 t H3 x3 g3 r3 h3 => ⟨v, u, t, rfl, ?_⟩⟩⟩⟩
  exact h3 W3 _ H3 (((g3.set (r1.ext (x2.toLk.trans x3.toLk))).set (r2.ext x3.toLk)).set r3) (Lk.refl W3 H3)
theorem s_par3 {i j l : Nat} {x y z : Str} {a b c : Expr} {ma mb mc : EM} {px py pz pt pos : Pos} {kt k2 pt2} (hc : X.calm = true) (hN : X.N.Nodup) (ha : PE X a (TrE F wx ma)) (hb : PE X b (TrE F wx mb)) (hd : PE X c (TrE F wx mc)) (hi : X.N[i]? = some x := by rfl) (hj : X.N[j]? = some y := by rfl) (hl : X.N[l]? = some z := by rfl)
    (hij : i ≠ j := by decide) (hil : i ≠ l := by decide) (hjl : j ≠ l := by decide) (hx : X.env.scope.names.lookup x = some .local := by rfl) (hy : X.env.scope.names.lookup y = some .local := by rfl) (hz : X.env.scope.names.lookup z = some .local := by rfl)
    (hw : swappedStores [.Tuple [.Name x px, .Name y py, .Name z pz] kt pt] (.Tuple [a, b, c] k2 pt2) X.env = pure (some [x, y, z]) := by rfl)
    (hs : swapsWithSole [.Tuple [.Name x px, .Name y py, .Name z pz] kt pt] (.Tuple [a, b, c] k2 pt2) pos.line X.env = pure false := by rfl)
    (h1 : starEach [a, b, c] X.env = (false, eval a X.env) :: starEach [b, c] X.env := by rfl) (h2 : starEach [b, c] X.env = (false, eval b X.env) :: starEach [c] X.env := by rfl) (h3 : starEach [c] X.env = (false, eval c X.env) :: starEach [] X.env := by rfl) :
    PS X (.Assign [.Tuple [.Name x px, .Name y py, .Name z pz] kt pt] (.Tuple [a, b, c] k2 pt2) pos) (TrS F wx (sPar3 i j l ma mb mc)) :=
  PS.imp (ps_par3 hc hN hi hj hl hij hil hjl hx hy hz (pa_cons ha (pa_cons hb (pa_cons hd pa_nil h3) h2) h1) hw hs) fun D σ H h => par3_imp h
theorem reps3 {G : Gl} {d d2 d3 : D} {vs : List V} (r : Reps G W H [d, d2, d3] vs) : ∃ v v2 v3, vs = [v, v2, v3] ∧ Rep G W H d v ∧ Rep G W H d2 v2 ∧ Rep G W H d3 v3 := by
  obtain ⟨v, r, e, h, r⟩ := r
  obtain ⟨v2, r2, rfl, h2, r⟩ := r
  obtain ⟨v3, r3, rfl, h3, r⟩ := r
  cases r
  exact ⟨v, v2, v3, e, h, h2, h3⟩
def rngC (c : Int) : Int → Nat → List D
  | _, 0 => []
  | lo, n + 1 => .int lo :: rngC c (lo + c) n
theorem rngC_len (c : Int) : ∀ (lo : Int) (n : Nat), (rngC c lo n).length = n
  | _, 0 => rfl
  | lo, n + 1 => by rw [rngC, List.length_cons, rngC_len]
theorem rngC_get {c : Int} : ∀ {lo : Int} {n i : Nat} {d : D}, (rngC c lo n)[i]? = some d → i < n ∧ d = .int (lo + (i : Nat) * c)
  | _, 0, _, _, h => by simp [rngC] at h
  | lo, n + 1, 0, d, h => by
    simp only [rngC, List.getElem?_cons_zero, Option.some.injEq] at h
    subst h
    exact ⟨Nat.succ_pos _, by simp⟩
  | lo, n + 1, i + 1, d, h => by
    simp only [rngC, List.getElem?_cons_succ] at h
    obtain ⟨h1, h2⟩ := rngC_get h
    refine ⟨Nat.succ_lt_succ h1, ?_⟩
    rw [h2, show ((i + 1 : Nat) : Int) = (i : Int) + 1 from rfl, Int.add_mul, Int.one_mul]
    congr 1
    omega
theorem it_rangeC {G : Gl} {lo c : Int} {n : Nat} : ItOk G W H (rngC c lo n) (Itc lo c n) := fun W' H' x =>
  ⟨fun i d e => by
    obtain ⟨h1, rfl⟩ := rngC_get e
    exact ⟨h1, fun y H2 ⟨eH, ey⟩ => by subst eH; subst ey; exact ⟨W', Ext.refl _ _, fun _ s => s, rfl⟩⟩, fun i hi => by rw [rngC_len] at hi; exact hi⟩
def iR3 (am : AM) : IM := fun ρ h => (am ρ h).bind fun xs h1 => match xs with
  | [.int i, .int j, .int c] => if c ≠ 0 ∧ c.natAbs < 1073741824 ∧ Builtin.Range.small i j c = true ∧ 0 ≤ Builtin.Range.rangeSize i j c then .ok (rngC c i (Builtin.Range.rangeSize i j c).toNat) h1 else .bad
  | _ => .bad
theorem i_r3 {tg a b c : Expr} {am : AM} {p pos : Pos} (hm : X.mg "range" = none) (ha : PA X [a, b, c] (TrA F wx am)) (hg : L2.Gl X "range" := by rfl) (hs : starEach [a, b, c] X.env = (false, eval a X.env) :: starEach [b, c] X.env := by rfl) (hpl : (backTo pos (starEach [b, c] X.env)).any (·.1) = false := by rfl) :
    PI X tg (.Call (.Name "range" p) [a, b, c] [] pos) (TrI F wx (iR3 am)) :=
  PI.imp (pi_range3 hg hm ha hs hpl) fun σ H R ⟨W, ρ, hp, g, q⟩ => ⟨W, ρ, hp, g, Fin.bind q fun xs hp1 W1 vs H1 x1 s1 r1 q1 => by
    split at q1
    · obtain ⟨v, v2, v3, rfl, rv, rv2, rv3⟩ := reps3 r1
      cases rv; cases rv2; cases rv3
      split at q1
      · rename_i hb
        exact ⟨_, _, _, _, rfl, ⟨hb.1, hb.2.1, hb.2.2.1, (Int.toNat_of_nonneg hb.2.2.2).symm⟩, q1 W1 _ H1 (Ext.refl _ _) s1 it_rangeC⟩
      · exact q1.elim
    · exact q1.elim⟩
def tIsNM (neg : Bool) (a : EM) : TM := fun ρ h => (a ρ h).bind fun x h1 => match x with
  | .non => .ok (!neg) h1
  | _ => .ok neg h1
theorem t_isN {a : Expr} {ea : EM} {j : Nat} {p2 pos : Pos} (ha : PE X a (TrE F wx ea)) : PT X (.Compare a [.Is] [.Constant .none j p2] pos) (TrT F wx (tIsNM false ea)) :=
  PT.imp (pt_cmp (pc_isN ha) rfl) fun σ H Q ⟨W, ρ, hp, g, h⟩ => ⟨W, ρ, hp, g, Fin.bind h fun d hp' W' v H' x s r q => ⟨_, rfl, by
    rw [rep_non r]
    cases d <;> exact Fin.here q s rfl⟩⟩
theorem t_notN {a : Expr} {ea : EM} {j : Nat} {p2 pos : Pos} (ha : PE X a (TrE F wx ea)) : PT X (.Compare a [.IsNot] [.Constant .none j p2] pos) (TrT F wx (tIsNM true ea)) :=
  PT.imp (pt_cmp (pc_notN ha) rfl) fun σ H Q ⟨W, ρ, hp, g, h⟩ => ⟨W, ρ, hp, g, Fin.bind h fun d hp' W' v H' x s r q => ⟨_, rfl, by
    rw [rep_non r]
    cases d <;> exact Fin.here q s rfl⟩⟩
/-- a def, its code's table: q is what its lambdas or generator expressions are called -/
def DefTab (K : PySem.W.Frag) (mg : Str → Option Value) (base : Heap) (G : Gl) (x : Str) (st : Stmt) (q : Str) : Prop :=
  ∃ f fd c P, FunD K x x (defArgs st) (defBody st) (defScope st) [] [] f fd ∧ mg x = some (.ref f) ∧ fd.code = .ref c ∧ LamX.TabB base mg c P ∧ (P, q) ∈ G.tl ∧ ∀ p ∈ G.tl, p.1 = P → p.2 = q
theorem same_code {c c' : Addr} {v : Value} (h : v = .ref c) (h' : v = .ref c') : c' = c := Value.ref.inj (h'.symm.trans h)
/-- the def that catches, from its text -/
theorem told_of {K : PySem.W.Frag} {mg : Str → Option Value} {x a e : Str} {st : Stmt} {CS : Addr} {ret : List Nat} {j : Nat} {p1 p2 p3 p4 p5 p6 p7 p8 : Pos} (D : DefAt K mg x st) (eK : X.K = K) (eg : X.mg = mg)
    (hb : defBody st = [.Try [.Return (some (.Call (.Name a p1) [] [] p2)) p3] [.ExceptHandler (some (.Name e p4)) none [.Return (some (.Constant (.str ⟨ret.toArray⟩) j p5)) p6] p7] [] [] p8])
    (hbind : ∀ (kV doc pm : Value) (an : Option Addr) (cdv ct : Value) (us : List Value), us.length = 1 → bindArgs (PySem.W.fnOf x x (defArgs st) (defBody st) (defScope st) .none kV doc pm an cdv ct) ⟨us, []⟩ = pure (([a] : List Str).zip us))
    (S : FnScope [a] [a] (defScope st)) (hv : Vis (defScope st) a) (hl : (defScope st).names.lookup e = some .globalImplicit) (hm : mg e = some (.ref CS)) (h1 : (e == ("__debug__" : Str)) = false) (h2 : (a == ("__debug__" : Str)) = false) (h3 : (a == ("__classdict__" : Str)) = false) : ToldZ X k x CS ret := by
  obtain ⟨f, fd, F, gm⟩ := D
  have bd : Binds K fd [a] [] := F.bindsN hbind
  have kp := F.kp
  obtain ⟨oc, od, dV, kV, doc, pm, an, cdv, ct, osl, rfl, lk, hcd, _, _⟩ := F.ex
  subst eK
  subst eg
  exact ⟨a, e, f, _, _, dV, kV, doc, pm, cdv, ct, oc, an, od, osl, j, p1, p2, p3, p4, p5, p6, p7, p8, _, hb, gm, kp, lk, hcd, bd, S, hv, hl, hm, h1, h2, h3⟩
end
section
variable {P : Program} {w : World} {K : PySem.W.Frag} {mg : Str → Option Value} {base : Heap} {G : Gl}
def mBad : FM := fun _ _ => .bad
/-- never called -/
theorem fn_never {N ps : List Str} {x : Str} {params : Arguments} {body : List Stmt} {scope : Scope} {f : Addr} {fd : FuncData} {n : Nat} (F : FunD K x x params body scope [] [] f fd) (S : FnScope N ps scope) (gm : mg x = some (.ref f)) (hl : ps.length = n)
    (hbind : ∀ (kV doc pm : Value) (an : Option Addr) (cdv ct : Value) (us : List Value), us.length = ps.length → bindArgs (PySem.W.fnOf x x params body scope .none kV doc pm an cdv ct) ⟨us, []⟩ = pure (ps.zip us)) : FnZ P w K mg base G 0 x n mBad := by
  exact ⟨⟨f, fd, ps, hl, ⟨fun vs H Q E h => by rw [h.len, hl], fun A outer s H args us vs Q E _ _ _ _ ⟨_, _, _, _, _, _, z⟩ => z.elim⟩, gm, F.kp, F.bindsN hbind⟩⟩
theorem FnZ.up {k k' n : Nat} {x : Str} {m : FM} (h : FnZ P w K mg base G k x n m) (hk : k ≤ k') : FnZ P w K mg base G k' x n m := by
  obtain ⟨f, fd, ps, hl, ok, r⟩ := h.ex
  exact ⟨⟨f, fd, ps, hl, ok.mono hk, r⟩⟩
theorem e_call0 {F : Fr} {X : Cx} {wx : WX} {k k' : Nat} {x : Str} {m : FM} {p pos : Pos} (C : FnZ X.prog X.w X.K X.mg X.base F.G k x 0 m) (hr : Room k' X.A) (tk : Takes X wx) (hk : k ≤ k' := by decide) (hg : L2.Gl X x := by rfl)
    (hdb : (x == ("__debug__" : Str)) = false := by decide) : PE X (.Call (.Name x p) [] [] pos) (TrE F wx (eCall 0 m aNil)) := by
  obtain ⟨f, fd, ps, hl, ok, hm, kp, bd⟩ := C.ex
  refine ⟨fun pins s σ H Q I h => ?_⟩
  have h1 : tCallS (spOf F.G m 0) (WE wx) (TrA F wx aNil) σ H Q := call_imp h
  refine wpAny_Call_Name_kw (ld_glob I hg hm ?_ hdb)
  refine PySem.W.callWith_K0 I.kIn kp ?_
  obtain ⟨W, ρ, hp, g, h2⟩ := h1
  exact run_fnS (us := []) ok (hr.mono hk) bd (passAt tk σ) I .nil (h2 W [] H (Ext.refl _ _) g.st rfl)
/-! ### lambdas of a text -/
def kidE (i : Nat) : Expr → Expr
  | .List es _ => es.getD i (.Constant .none 0 ⟨0, 0, 0, 0⟩)
  | .Tuple es _ _ => es.getD i (.Constant .none 0 ⟨0, 0, 0, 0⟩)
  | .BinOp a _ b _ => if i = 0 then a else b
  | e => e
def asgV : Stmt → Expr
  | .Assign _ v _ => v
  | _ => .Constant .none 0 ⟨0, 0, 0, 0⟩
def lamP : Expr → Option (Arguments × Expr × Scope)
  | .Lambda p b s _ => some (p, b, s)
  | _ => none
def lamOf (q : Str) (e : Expr) : Option (Arguments × Expr × Scope × Str) := (lamP e).map fun t => (t.1, t.2.1, t.2.2, q)
end
end Z

/-! Z24: enumerate over a tuple, over a text -/
namespace Z
open PySem PySem.Spec PyProof.Rows L2
open AutoSeq1 (wpAny_loadPart')

abbrev enObj (a : Addr) : Obj := { cls := .type "enumerate", data := .fields #[.none, .bool false, .ref a, rawInt 0, .none, .none] }
theorem en_newT (t : Addr) (items : Array Value) (n : Nat) (dct : Option Addr) (sl : Array (Option Value)) :
    Meets (Builtin.«enumerate.__new__» ⟨[.type "enumerate", .ref t], []⟩) (fun _ R s => s.heap.get? t = some { cls := .type "tuple", dict := dct, data := .seq items n, slots := sl } ∧
      R (.ok (.ret (.ref (s.heap.push { cls := .type "tuple_iterator", data := .fields #[.ref t, .int 0 0] }).objs.size)))
        { s with heap := (s.heap.push { cls := .type "tuple_iterator", data := .fields #[.ref t, .int 0 0] }).push (enObj s.heap.objs.size) }) :=
  .of_wp fun prog w A R s h => by
    obtain ⟨hp, g, d, tk, os⟩ := s; obtain ⟨hl, h⟩ := h
    have hsub := sub_enumerate
    have hT : Heap.IsTuple (Shared.heap ⟨hp, g, d, tk, os⟩) t items := ⟨_, hl, rfl, n, rfl⟩
    wp_walk using wpAny_loadPart' hl
    refine wpAny_stack_any fun st => wpAny_pure ?_
    split
    · rename_i c _ _ _ _ _
      cases (c == Value.type "enumerate")
      · wp_walk using wpAny_loadPart' hl, wpAny_pyIter_tuple hT
        exact ⟨_, rfl, h⟩
      · wp_walk using wpAny_loadPart' hl, wpAny_pyIter_tuple hT
        exact ⟨_, rfl, h⟩
    · wp_walk using wpAny_loadPart' hl, wpAny_pyIter_tuple hT
      exact ⟨_, rfl, h⟩
section
variable {prog : Program} {w : World} {A : Around} {E : Value → Shared → Prop} {s : Shared}
theorem call_enumT {t : Addr} {items : Array Value} {Q : Value → Shared → Prop} (hT : s.heap.IsTuple t items)
    (h : ∀ h', IsEnum h' (s.heap.objs.size + 1) s.heap.objs.size 0 .none → h'.IsTupleIter s.heap.objs.size t 0 → h'.objs.size = s.heap.objs.size + 2 →
      (∀ b o, s.heap.get? b = some o → h'.get? b = some o) → Q (.ref (s.heap.objs.size + 1)) { s with heap := h' }) : wpAny (model prog w) A (call (.type "enumerate") [.ref t]) Q E s := by
  obtain ⟨⟨c, dct, dt, sl⟩, hl, hc, n, hd⟩ := hT
  replace hc : c = .type "tuple" := hc
  replace hd : dt = .seq items n := hd
  subst hc hd
  refine callType_new PySem.F.called_enumerate (by decide) (PySem.F.typeCall_enumerate_1 _) (PySem.F.newCall_enumerate_1 _) (fun obj => PySem.F.args_object_init_2 obj _) PySem.F.entry_enumerate_new (en_newT t items n dct sl) ⟨hl, ?_⟩
  have hz : (s.heap.push { cls := .type "tuple_iterator", data := .fields #[.ref t, .int 0 0] }).objs.size = s.heap.objs.size + 1 := Heap.size_push ..
  show _ ∧ _
  rw [hz]
  have he : IsEnum ((s.heap.push { cls := .type "tuple_iterator", data := .fields #[.ref t, .int 0 0] }).push (enObj s.heap.objs.size)) (s.heap.objs.size + 1) s.heap.objs.size 0 .none := by
    have q := Heap.get?_push_size (s.heap.push { cls := .type "tuple_iterator", data := .fields #[.ref t, .int 0 0] }) (o := enObj s.heap.objs.size) rfl
    rw [hz] at q; exact q
  exact ⟨⟨_, he, rfl⟩, h _ he ⟨_, Heap.get?_push_of_some _ (Heap.get?_push_size _ rfl), rfl, rfl⟩ (by rw [Heap.size_push, hz]) fun b o x => Heap.get?_push_of_some _ (Heap.get?_push_of_some _ x)⟩
end
/-- each item of the tuple at a, with its place, in a new pair -/
def IteT (K : PySem.W.Frag) (a : Addr) : It :=
  ⟨fun i H => ∃ (xs : List V) (x : V), SqT K H a xs ∧ xs[i]? = some x, fun i H v H' => ∃ T x, v = .ref T ∧ H T = none ∧ H' = upd H T (.tup [.int (i : Nat), x]) ∧ ∀ xs, SqT K H a xs → xs[i]? = some x, fun i H => ∃ xs : List V, SqT K H a xs ∧ xs.length ≤ i⟩
/-- a new pair was handed out -/
theorem en_pair {X : Cx} {pins : List (Addr × Obj)} {σ : L2.St} {H : Hp} {s : Shared} {e it : Addr} {i : Nat} {x : V} {u : Value} {tk : Nat} {h' h'' : Heap} (I : Inv X pins σ H s) (hf : ∀ b ∈ [e, it], FpOk X pins H b) (hel : e < s.heap.objs.size) (ru : RelV x u)
    (hT : h'.get? s.heap.objs.size = some { cls := .type "tuple", data := .seq #[.int i tk, u] }) (sb : Heap.SameBut e h' h'') (hk : ∀ b o, b ≠ e → b ≠ it → s.heap.get? b = some o → h'.get? b = some o) :
    Inv X pins σ (upd H s.heap.objs.size (.tup [.int (i : Nat), x])) { s with heap := h'', toks := tk + 1 } := by
  have hT2 : h''.get? s.heap.objs.size = some { cls := .type "tuple", data := .seq #[.int i tk, u] } := (sb.2 _ (Nat.ne_of_gt hel)).trans hT
  have new : ObjOk X.prog X.w (upd H s.heap.objs.size (.tup [.int (i : Nat), x])) h'' s.heap.objs.size (.tup [.int (i : Nat), x]) :=
    ⟨by show 2 ≤ sizeLine; decide, [.int i tk, u], .cons ⟨_, rfl⟩ (.cons ru .nil), ⟨_, hT2, rfl, _, rfl⟩⟩
  exact I.turnedNew (ch := [e, it]) (fun b ob hb q => (sb.2 b (fun z => hb (by simp [z]))).trans (hk b ob (fun z => hb (by simp [z])) (fun z => hb (by simp [z])) q)) hf (Nat.le_refl _) new
theorem turn_enumT {P : Program} {w : World} {K : PySem.W.Frag} {elts : List Expr} {kk : Nat} {tpos : Pos} (a e it : Addr) (hae : a ≠ e) (hai : a ≠ it) :
    Turn P w K (.Tuple elts kk tpos) (IteT K a) [e, it] e (fun i h => (∃ old, IsEnum h e it ((i : Nat) : Int) old) ∧ h.IsTupleIter it a i ∧ e ≠ it) where
  mem := by simp
  obj := fun i h st b hb => by
    obtain ⟨⟨old, he⟩, ⟨o, ho, hc, hd⟩, _⟩ := st
    have e' : b = e ∨ b = it := by simpa using hb
    rcases e' with z | z
    · rw [z]; exact ⟨_, he, fun v q => nomatch q⟩
    · rw [z]; exact ⟨o, ho, fun v q => by rw [hd] at q; cases q⟩
  keep := fun i h h' st k => let ⟨⟨old, he⟩, hi, hne⟩ := st; ⟨⟨old, k e (by simp) _ he⟩, hi.at fun o q => k it (by simp) o q, hne⟩
  item := by
    intro X hP hw hK hc i pins s σ H E I hf st hg
    subst hP hw hK
    obtain ⟨⟨old, he⟩, hit, hne⟩ := st
    obtain ⟨xs, x, hq, hx⟩ := hg
    obtain ⟨its, rv, p, hz⟩ := I.tuple hq
    obtain ⟨u, hu, ru⟩ := rv.get hx
    have hel : e < s.heap.objs.size := Heap.lt_size he
    have hil : it < s.heap.objs.size := by obtain ⟨_, q, _⟩ := hit; exact Heap.lt_size q
    have hlt : i < its.toArray.size := by
      have := (List.getElem?_eq_some_iff.mp hu).1
      simpa using this
    refine wpAny_pyNext_enum_itemD (Draws.tuple (A := X.A.in1) (show X.A.in1.handled = none from I.ok.hd hc) it a hai its.toArray) he ⟨hit, p⟩ hlt hne (by simp [hne, Ne.symm hae]) fun y h' tk hy ho hit' hT hsz hk => ?_
    have ey : y = u := by
      have : its.toArray[i]? = some y := hy
      rw [show its.toArray[i]? = its[i]? by simp, hu] at this
      exact (Option.some.inj this).symm
    subst ey
    refine ⟨_, rfl, wpAny_letOwnedTupleGo_enum (s := { s with heap := h', toks := tk + 1 }) ho fun h'' he' sb => ?_⟩
    refine ⟨.ref s.heap.objs.size, _, en_pair (s := s) I hf hel ru hT sb hk, rfl, ⟨_, x, rfl, I.hok.fresh (Nat.le_refl _), rfl, fun ys hy => by rw [I.tuple_inj hy hq]; exact hx⟩, ⟨⟨y, ?_⟩, hit'.1.at fun o q => (sb.2 it (Ne.symm hne)).trans q, hne⟩, fun b hb => ?_⟩
    · have e1 : ((i + 1 : Nat) : Int) = (i : Int) + 1 := by omega
      rw [e1]; exact he'
    · have hb' : b < s.heap.objs.size := by
        have e' : b = e ∨ b = it := by simpa using hb
        rcases e' with z | z
        · rw [z]; exact hel
        · rw [z]; exact hil
      rw [upd_ne (Nat.ne_of_lt hb')]
      exact (hf b hb).1
  done := by
    intro X hP hw hK hc i pins s σ H E I hf st hg
    subst hP hw hK
    obtain ⟨⟨old, he⟩, hit, hne⟩ := st
    obtain ⟨xs, hq, hx⟩ := hg
    obtain ⟨its, rv, p, hz⟩ := I.tuple hq
    obtain ⟨f0, f1, f2, f3, f4, f5⟩ := hf it (by simp)
    have hl := rv.length
    have hTy : s.TypeIs (.ref e) "enumerate" := ⟨_, he, rfl⟩
    unfold pyNext
    refine wpAny_bind (wpAny_attempt (wpAny_callSpecial?_slot (name := Str.ofString "__next__") hTy PySem.F.slot_enumerate_next (wpAny_call_entry PySem.F.slot_enumerate_next hTy PySem.F.entry_enumerate_next ?_ (PySem.F.args_enumerate_next_1 _))))
    show wpAny _ _ (field (.ref e) 2 >>= _) _ _ _
    refine wpAny_bind (wpAny_field he rfl (x := .ref it) rfl ?_)
    refine wpAny_bind (wpAny_nextOf_tuple_end (show X.A.in1.handled = none from I.ok.hd hc) hit p (by simp; omega) fun h' x eb hx' => ?_)
    obtain ⟨o, ho, hcl⟩ := hx'
    refine wpAny_bind (wpAny_isInstance (T := "StopIteration") (b := true) ⟨o, ho, hcl⟩ isSubtype_stop ?_)
    exact wpAny_pure ⟨rfl, I.turned (t' := s.toks) (fun b o hb q => eb b o hb q) f0 f1 f3 f4 f5⟩
  self := fun A i s Q E st h => let ⟨⟨_, he⟩, _⟩ := st; wpAny_pyIter_enum he h
def iEnT (K : PySem.W.Frag) (ta : TA) : TI := fun σ H R => ta σ H fun vs H1 => ∃ a xs, vs = [.ref a] ∧ SqT K H1 a xs ∧ R (IteT K a) H1
theorem pi_enumT {X : Cx} {e : Expr} {ta : TA} {p pos tpos : Pos} {elts : List Expr} {kk : Nat} (hg : L2.Gl X "enumerate") (hm : X.mg "enumerate" = none) (ha : PA X [e] ta) (hs : starEach [e] X.env = [(false, eval e X.env)] := by rfl) :
    PI X (.Tuple elts kk tpos) (.Call (.Name "enumerate" p) [e] [] pos) (iEnT X.K ta) := by
  refine ⟨fun pins s σ H R I h => ?_⟩
  refine Call_ (ld_blt I hg hm boot_enumerate (PyProof.Rows.callWith_type1 (thn (ha.run pos pins s σ H _ I h) fun us s1 ⟨vs, H1, I1, r1, q1⟩ => ?_) hs rfl))
  obtain ⟨a, xs, rfl, hq, q⟩ := q1
  obtain ⟨u, rfl, ru⟩ := r1.one
  obtain rfl : u = Value.ref a := ru
  obtain ⟨its, rv, p', hz⟩ := I1.tuple hq
  have hal : a < s1.heap.objs.size := by obtain ⟨o, q, _⟩ := p'; exact Heap.lt_size q
  refine call_enumT p' fun h' he hit hsz hk => wpAny_pyIter_enum he ?_
  have I2 : Inv X pins σ H1 { s1 with heap := h' } := I1.kept (t' := s1.toks) hk
  refine ⟨s1.heap.objs.size + 1, [s1.heap.objs.size + 1, s1.heap.objs.size], _, _, H1, rfl, I2, turn_enumT a (s1.heap.objs.size + 1) s1.heap.objs.size (Nat.ne_of_lt (Nat.lt_succ_of_lt hal)) (Nat.ne_of_lt hal), ⟨⟨.none, he⟩, hit, Nat.succ_ne_self _⟩, fun b hb => ?_, q⟩
  have e' : b = s1.heap.objs.size + 1 ∨ b = s1.heap.objs.size := by simpa using hb
  have hle : s1.heap.objs.size ≤ b := by
    rcases e' with z | z
    · rw [z]; exact Nat.le_add_right _ _
    · rw [z]; exact Nat.le_refl _
  exact I1.fpOk hle (I1.hok.fresh hle)
section
variable {F : Fr} {X : Cx} {wx : WX} {G : Gl} {W : Wd} {H : Hp}
theorem it_enumT {a : Addr} {ds : List D} {vs : List V} (hs : ∀ W' H', Lk W H W' H' → SqT G.K H' a vs) (r : Reps G W H ds vs) : ItOk G W H (enumL 0 ds) (IteT G.K a) := fun W' H' x =>
  ⟨fun i d e => by
    obtain ⟨d', e1, rfl⟩ := enumL_get e
    obtain ⟨v, e2, rv⟩ := r.get e1
    refine ⟨⟨vs, v, hs W' H' x, e2⟩, fun y H2 ⟨T, z, ey, hT, eH, q⟩ => ?_⟩
    have := q vs (hs W' H' x)
    rw [e2] at this; cases this
    subst ey; subst eH
    have x2 := ext_fz' (W := W') (o := .tup [.int (i : Nat), v]) hT
    refine ⟨W'.fzA T, x2, fun hp s => st_fz s hT, T, _, rfl, fz_tup, _, _, rfl, ?_, _, _, rfl, (rv.ext x).ext x2.toLk, rfl⟩
    show V.int _ = V.int _
    rw [Nat.zero_add], fun i hi => by rw [enumL_len] at hi; exact ⟨vs, hs W' H' x, by rw [← r.length]; exact hi⟩⟩
def enD (xs : List D) (h1 : Hc) : R (List D) := match xs with
  | [.lst ds] => .ok (enumL 0 ds) h1
  | [.scr ds] => .ok (enumL 0 ds) h1
  | [.tup ds] => .ok (enumL 0 ds) h1
  | _ => .bad
def iEnA (am : AM) : IM := fun ρ h => (am ρ h).bind enD
theorem i_enA {a : Expr} {am : AM} {p pos tpos : Pos} {elts : List Expr} {kk : Nat} (hK : F.G.K = X.K) (hm : X.mg "enumerate" = none) (ha : PA X [a] (TrA F wx am)) (hg : L2.Gl X "enumerate" := by rfl) (hs : starEach [a] X.env = [(false, eval a X.env)] := by rfl) :
    PI X (.Tuple elts kk tpos) (.Call (.Name "enumerate" p) [a] [] pos) (TrI F wx (iEnA am)) := by
  have h1 := pi_enum (elts := elts) (kk := kk) (tpos := tpos) (p := p) (pos := pos) hg hm ha hs
  have h2 := pi_enumT (elts := elts) (kk := kk) (tpos := tpos) (p := p) (pos := pos) hg hm ha hs
  refine PI.imp (PI.or h1 h2) fun σ H R ⟨W, ρ, hp, g, q⟩ => ?_
  unfold iEnA at q
  cases z : am ρ hp with
  | bad => rw [z] at q; exact q.elim
  | ex c h1 =>
    rw [z] at q
    refine .inl ⟨W, ρ, hp, g, ?_⟩
    rw [z]
    exact q
  | ok xs h1 =>
    rw [z] at q
    have q : Fin F wx σ (ItOk F.G) W H R (enD xs h1) := q
    unfold enD at q
    split at q
    · refine .inl ⟨W, ρ, hp, g, ?_⟩
      rw [z]
      intro W2 vs H2 x2 s2 r2
      obtain ⟨v, rfl, a, ws, rfl, t, rs⟩ := reps1 r2
      refine ⟨a, ws, rfl, SqL.of t.2, q W2 _ H2 x2 s2 ?_⟩
      rw [← hK]
      exact it_enum (fun W2 H2 l => SqL.of (t.ext l).2) rs
    · refine .inl ⟨W, ρ, hp, g, ?_⟩
      rw [z]
      intro W2 vs H2 x2 s2 r2
      obtain ⟨v, rfl, a, ws, rfl, t, rs⟩ := reps1 r2
      refine ⟨a, ws, rfl, hK ▸ SqL.fz (K := F.G.K) t (Lk.refl _ _), q W2 _ H2 x2 s2 ?_⟩
      rw [← hK]
      exact it_enum (fun W2 H2 l => SqL.fz (K := F.G.K) t l) rs
    · refine .inr ⟨W, ρ, hp, g, ?_⟩
      rw [z]
      intro W2 vs H2 x2 s2 r2
      obtain ⟨v, rfl, a, ws, rfl, t, rs⟩ := reps1 r2
      refine ⟨a, ws, rfl, hK ▸ t.sq, q W2 _ H2 x2 s2 ?_⟩
      rw [← hK]
      exact it_enumT (fun W2 H2 l => (t.ext l).sq) rs
    · exact q.elim
/-! ### sum of a list, of a tuple -/
def rSumA (K : PySem.W.Frag) : List V → Hp → VK → Prop := fun vs H Q => ∃ (a : Addr) (ns : List Int), vs = [V.ref a] ∧ (SqL K H a (ns.map V.int) ∨ SqT K H a (ns.map V.int)) ∧ Q (.int ns.sum) H
theorem cr_sumA (hc : X.calm = true) : CallR X (.builtin "sum") (rSumA X.K) := by
  intro pins s σ H vs us Q I r h
  obtain ⟨a, ns, rfl, hs, q⟩ := h
  rcases hs with hs | hs
  · exact cr_sum hc pins s σ H _ us Q I r ⟨a, ns, rfl, hs, q⟩
  · obtain ⟨its, rv, ht, _⟩ := I.tuple hs
    rw [Vals.ref1 r]
    have hi := rv.ints
    obtain ⟨xs, hx⟩ := hi.allInts.items
    have hn : numsOf its.toArray.toList = ns := by rw [show its.toArray.toList = its from rfl, hi.numsOf]
    rw [hx] at ht hn
    rw [nums_intItems] at hn
    refine PySem.W.ktm_sumG (I.ok.hd hc) ht fun h' tk t' hk => ⟨.int ns.sum, H, I.kept hk, ⟨t', ?_⟩, q⟩
    rw [preSum_eq, List.take_of_length_le (by simp), hn]
def bSumA : BM := fun xs h => match xs with
  | [x] => (match unbox h x with
    | .lst ds => (match ints? ds with | some ns => .ok (.int ns.sum) h | none => .bad)
    | .tup ds => (match ints? ds with | some ns => .ok (.int ns.sum) h | none => .bad)
    | _ => .bad)
  | _ => .bad
theorem s_sumA (hK : F.G.K = X.K) : BiS F bSumA (rSumA X.K) := by
  intro wx σ W H hp xs vs Q s r h
  unfold bSumA at h
  split at h
  · obtain ⟨v, rfl, r1⟩ := repsB1 r
    have ux := unbox_rep s r1
    split at h
    · rename_i ds e1
      rw [e1] at ux
      obtain ⟨p, vs, rfl, tp, rp⟩ := ux
      split at h
      · rename_i ns en
        have ev := ints_rep en rp
        subst ev
        exact ⟨p, ns, rfl, .inl (SqL.of tp), Fin.here h s rfl⟩
      · exact h.elim
    · rename_i ds e1
      rw [e1] at ux
      obtain ⟨p, vs, rfl, tp, rp⟩ := ux
      split at h
      · rename_i ns en
        have ev := ints_rep en rp
        subst ev
        exact ⟨p, ns, rfl, .inr (hK ▸ tp.sq), Fin.here h s rfl⟩
      · exact h.elim
    · exact h.elim
  · exact h.elim
end
end Z

/-! Zh: from the head's facts to what the walk asks -/
namespace Z
open PySem PySem.Spec PyProof.Rows L2

def dd (x : Str) (st : Stmt) : He.DefD := ⟨(x, none), x, x, defArgs st, defBody st, defScope st, [], []⟩
section
variable {fa : List He.Fa} {fn : List He.DefD} {ts : List He.Tab} {tf : List He.Defn} {ex : PySem.W.Frag → Bool} {w : World} {h base : Heap} {K : PySem.W.Frag} {mg : Str → Option Value} {G : Gl}
theorem fact_at (c : He.SaysX fa fn ts tf ex w h K) (i : Nat) {f : He.Fa} (e : fa[i]? = some f) : f.ok K = true := c.t.d.facts (List.mem_of_getElem? e)
theorem defAt (X : K.In h) (N : h.Ns mainGlobals mg) (c : He.SaysX fa fn ts tf ex w h K) (i j : Nat) {x : Str} {st : Stmt} (e : fn[i]? = some (dd x st)) (e2 : fa[j]? = some (.glo x)) : DefAt K mg x st := by
  obtain ⟨fd, F⟩ := c.t.d.defs (List.mem_of_getElem? e)
  exact ⟨_, fd, F, He.glo_ok X N (fact_at c j e2)⟩
/-- the tables' places -/
def uniq (l : List (Addr × Str)) : Bool := l.all fun p => l.all fun q => !decide (p.1 = q.1) || decide (p.2 = q.2)
theorem uniq_at {l : List (Addr × Str)} (h : uniq l = true) {p q : Addr × Str} (hp : p ∈ l) (hq : q ∈ l) (e : p.1 = q.1) : p.2 = q.2 := by
  have h1 := List.all_eq_true.mp (List.all_eq_true.mp h p hp) q hq
  rw [decide_eq_true e, Bool.not_true, Bool.false_or] at h1
  exact of_decide_eq_true h1
theorem defTab (X : K.In h) (N : h.Ns mainGlobals mg) (c : He.SaysX fa fn ts tf ex w h K) (B : ∀ p ∈ tf, LamX.TabB base mg (He.cT K p).1 (He.cT K p).2) (hu : uniq G.tl = true) (i j l m : Nat) {x q : Str} {st : Stmt} (e : fn[i]? = some (dd x st)) (e2 : fa[j]? = some (.glo x))
    (e3 : tf[l]? = some (x, none)) (e4 : G.tl[m]? = some ((He.cT K (x, none)).2, q)) : DefTab K mg base G x st q := by
  obtain ⟨fd, F⟩ := c.t.d.defs (List.mem_of_getElem? e)
  have hm := List.mem_of_getElem? e4
  have hc : fd.code = .ref (He.codeOf K (x, none)) := by
    obtain ⟨oc, od, dV, kV, doc, pm, an, cdv, ct, osl, rfl, lk, hcd, _, _⟩ := F.ex
    obtain ⟨a, rfl⟩ := He.codeIn_ref hcd
    exact congrArg Value.ref (He.codeOf_eq (p := (x, none)) lk rfl).symm
  exact ⟨_, fd, _, _, F, He.glo_ok X N (fact_at c j e2), hc, B _ (List.mem_of_getElem? e3), hm, fun p hp z => uniq_at hu hp hm z⟩
theorem freeAt (X : K.In h) (N : h.Ns mainGlobals mg) (c : He.SaysX fa fn ts tf ex w h K) (j : Nat) {x : Str} (e : fa[j]? = some (.free x)) : mg x = none := He.free_ok X N (fact_at c j e)
theorem intAt (X : K.In h) (N : h.Ns mainGlobals mg) (c : He.SaysX fa fn ts tf ex w h K) (j : Nat) {x : Str} {i : Int} (e : fa[j]? = some (.int x i)) : ∃ u, mg x = some u ∧ RelV (.int i) u := by
  obtain ⟨t, ht⟩ := He.int_ok X N (fact_at c j e)
  exact ⟨_, ht, t, rfl⟩
theorem excAt (X : K.In h) (N : h.Ns mainGlobals mg) (c : He.SaysX fa fn ts tf ex w h K) (j l : Nat) {x : Str} {n : Nat} (e : fa[j]? = some (.glo x)) (e2 : fa[l]? = some (.exc x)) (hn : G.ca n = He.ga K x) : ExZ K mg G n x := by
  obtain ⟨a, b, d, t⟩ := He.exc_ok (fact_at c l e2)
  exact ⟨by rw [hn]; exact He.glo_ok X N (fact_at c j e), by rw [hn]; exact a, by rw [hn]; exact b, by rw [hn]; exact d, by rw [hn]; exact t⟩
/-! ### the end -/
theorem st_first {H : Hp} {a : Addr} {vs : List V} (hT : ∀ p ∈ G.tl, H p.1 = some (.tbl #[])) (hS : SqL G.K H a vs) : ∃ W, St0 G W H [] ∧ ScrAt G W H a vs := by
  have tabs : LamX.Tabs G.tl H := fun p hp => ⟨#[], hT p hp, by simp [TriplesOk], fun pos cv z => by simp [codeAmong] at z⟩
  rcases hS with hR | hK
  · have there : H a ≠ none := by
      rcases hR with e | ⟨o, e⟩
      · rw [e]; simp
      · rw [e]; simp
    refine ⟨⟨fun _ => none, fun b => b = a, fun _ => none⟩, ⟨?_, ?_, ?_, ?_, ?_, tabs, fun _ _ _ => trivial⟩, .inl ⟨rfl, hR⟩⟩
    · intro n c z; simp at z
    · intro n b z; cases z
    · intro n k b z; cases z
    · intro n b z; cases z
    · intro b z
      have e : b = a := z
      rw [e]
      exact there
  · refine ⟨⟨fun _ => none, fun b => False, fun _ => none⟩, ⟨?_, ?_, ?_, ?_, ?_, tabs, fun _ _ _ => trivial⟩, .inr hK⟩
    · intro n c z; simp at z
    · intro n b z; cases z
    · intro n k b z; cases z
    · intro n b z; cases z
    · intro b z; exact z.elim
theorem reps_ints {W : Wd} {H : Hp} : ∀ (ns : List Int), Reps G W H (ns.map D.int) (ns.map V.int)
  | [] => rfl
  | n :: ns => ⟨.int n, ns.map V.int, rfl, rfl, reps_ints ns⟩
theorem fd_same {x q : Str} {pa pa2 : Arguments} {b b2 : List Stmt} {sc sc2 : Scope} {f : Addr} {fd fd2 : FuncData} (F : FunD K x q pa b sc [] [] f fd) (F2 : FunD K x q pa2 b2 sc2 [] [] f fd2) : fd2 = fd := by
  obtain ⟨_, _, _, _, _, _, _, _, _, _, _, l1, _⟩ := F.ex
  obtain ⟨_, _, _, _, _, _, _, _, _, _, _, l2, _⟩ := F2.ex
  rw [l1] at l2
  cases l2
  rfl
/-- the law's own def, walked -/
def FnL (P : Program) (w : World) (K : PySem.W.Frag) (mg : Str → Option Value) (base : Heap) (G : Gl) (k : Nat) (x p : Str) (st : Stmt) (m : FM) : Prop :=
  ∃ f fd, FunD K x x (defArgs st) (defBody st) (defScope st) [] [] f fd ∧ mg x = some (.ref f) ∧ FnOk P w K mg base (L2.CX P w) k f fd [p] (spOf G m 1)
/-- the law's promise, from the plain law -/
theorem law_at {l : PySem.W.OpenLaw} {k n : Nat} {m : FM} {x p : Str} {st : Stmt} {fa' : Addr} (X : K.In h) (c : He.SaysX fa fn ts tf ex w h K) (i : Nat) (e : fn[i]? = some (dd x st)) (tl : ∀ t ∈ G.tl, ∃ p ∈ tf, t.1 = (He.cT K p).2) (hK : G.K = K)
    (hfa : mg x = some (.ref fa')) (hbind : ∀ (kV doc pm : Value) (an : Option Addr) (cdv ct : Value) (us : List Value), us.length = 1 → bindArgs (PySem.W.fnOf x x (defArgs st) (defBody st) (defScope st) .none kV doc pm an cdv ct) ⟨us, []⟩ = pure (([p] : List Str).zip us))
    (Zl : ∀ base : Heap, K.In base → base.Ns mainGlobals mg → (∀ p ∈ tf, LamX.TabB base mg (He.cT K p).1 (He.cT K p).2) → FnL l.prog w K mg base G k x p st m) (hg : mg x = some (.ref (He.fAd K (x, none))))
    (hm : ∀ ns : List Int, ns.length ≤ n → (∀ z ∈ ns, Builtin.Int.intBits z ≤ 1048576) → ∃ h', m [.scr (ns.map D.int)] [] = .ok (.bl true) h') : LamX.LawAtS l w K (L2.CX l.prog w) k n p mg fa' h := by
  obtain ⟨fd, F⟩ := c.t.d.defs (List.mem_of_getElem? e)
  have ef : fa' = He.fAd K (x, none) := by
    rw [hg] at hfa
    cases hfa
    rfl
  have b := FunD.bindsA (ps := [p]) F hbind
  refine ⟨fd, tf.map (He.cT K), spOf G m 1, fun q hq => ?_, fun q hq => ?_, fun q hq => ?_, fun s v => b s [v] rfl, fun H a ns hl hz hT hS => ?_, fun base kb nb tb => ?_⟩
  · obtain ⟨d, hd, rfl⟩ := List.mem_map.mp hq
    exact c.empty d hd
  · obtain ⟨d, hd, rfl⟩ := List.mem_map.mp hq
    exact c.out d hd
  · obtain ⟨d, hd, rfl⟩ := List.mem_map.mp hq
    exact PySem.W.codeHd_of_K X (c.hd d hd)
  · obtain ⟨h', hm⟩ := hm ns hl hz
    obtain ⟨W, st0, scr⟩ := st_first (G := G) (a := a) (vs := ns.map V.int) (fun t ht => by
      obtain ⟨d, hd, e1⟩ := tl t ht
      rw [e1]
      exact hT _ (List.mem_map.mpr ⟨d, hd, rfl⟩)) (hK ▸ hS)
    refine ⟨W, [], [.scr (ns.map D.int)], st0, ⟨_, [], rfl, ⟨a, _, rfl, scr, reps_ints ns⟩, rfl⟩, rfl, ?_⟩
    rw [hm]
    exact fun W' v H' _ _ r => r
  · obtain ⟨f, fd2, F2, gm, ok⟩ := Zl base kb nb fun q hq => tb _ (List.mem_map.mpr ⟨q, hq, rfl⟩)
    rw [hfa] at gm
    cases gm
    rw [ef] at F2 ⊢
    rw [fd_same F F2] at ok
    rw [← ef]
    exact ok
end
end Z

namespace Z
open PySem PySem.Spec PyProof.Rows L2
/-! the text, what the head tells of it -/
def top (i : Nat) : Stmt := PySem.Challenge.pw_zipstack_k02_the_same_sign_told_once.main.body.getD i (.Pass ⟨0, 0, 0, 0⟩)
def subE : Nat → Option Bool := fun n => match n with
  | 1 => some true
  | _ => none
def lamTab : Nat → Option (Arguments × Expr × Scope × Str) := fun i => match i with
  | 0 => lamOf ("_law_plain" ++ ".<locals>." ++ "<lambda>") ((kidE 4 (asgV ((defBody (top 29)).getD 4 (top 0)))))
  | 1 => lamOf ("_law_plain" ++ ".<locals>." ++ "<lambda>") ((kidE 3 (asgV ((defBody (top 29)).getD 4 (top 0)))))
  | 2 => lamOf ("_law_plain" ++ ".<locals>." ++ "<lambda>") ((kidE 2 (asgV ((defBody (top 29)).getD 4 (top 0)))))
  | 3 => lamOf ("_law_plain" ++ ".<locals>." ++ "<lambda>") ((kidE 1 (asgV ((defBody (top 29)).getD 4 (top 0)))))
  | 4 => lamOf ("_law_plain" ++ ".<locals>." ++ "<lambda>") ((kidE 0 (asgV ((defBody (top 29)).getD 4 (top 0)))))
  | 5 => lamOf ("_law_plain" ++ ".<locals>." ++ "<lambda>") ((kidE 4 (kidE 1 (asgV ((defBody (top 29)).getD 5 (top 0))))))
  | 6 => lamOf ("_law_plain" ++ ".<locals>." ++ "<lambda>") ((kidE 3 (kidE 1 (asgV ((defBody (top 29)).getD 5 (top 0))))))
  | 7 => lamOf ("_law_plain" ++ ".<locals>." ++ "<lambda>") ((kidE 2 (kidE 1 (asgV ((defBody (top 29)).getD 5 (top 0))))))
  | 8 => lamOf ("_law_plain" ++ ".<locals>." ++ "<lambda>") ((kidE 1 (kidE 1 (asgV ((defBody (top 29)).getD 5 (top 0))))))
  | 9 => lamOf ("_law_plain" ++ ".<locals>." ++ "<lambda>") ((kidE 0 (kidE 1 (asgV ((defBody (top 29)).getD 5 (top 0))))))
  | 10 => lamOf ("_law_plain" ++ ".<locals>." ++ "<lambda>") ((kidE 4 (kidE 1 (asgV ((defBody (top 29)).getD 6 (top 0))))))
  | 11 => lamOf ("_law_plain" ++ ".<locals>." ++ "<lambda>") ((kidE 3 (kidE 1 (asgV ((defBody (top 29)).getD 6 (top 0))))))
  | 12 => lamOf ("_law_plain" ++ ".<locals>." ++ "<lambda>") ((kidE 2 (kidE 1 (asgV ((defBody (top 29)).getD 6 (top 0))))))
  | 13 => lamOf ("_law_plain" ++ ".<locals>." ++ "<lambda>") ((kidE 1 (kidE 1 (asgV ((defBody (top 29)).getD 6 (top 0))))))
  | 14 => lamOf ("_law_plain" ++ ".<locals>." ++ "<lambda>") ((kidE 0 (kidE 1 (asgV ((defBody (top 29)).getD 6 (top 0))))))
  | 15 => lamOf ("_law_plain" ++ ".<locals>." ++ "<lambda>") ((kidE 4 (kidE 1 (asgV ((defBody (top 29)).getD 7 (top 0))))))
  | 16 => lamOf ("_law_plain" ++ ".<locals>." ++ "<lambda>") ((kidE 3 (kidE 1 (asgV ((defBody (top 29)).getD 7 (top 0))))))
  | 17 => lamOf ("_law_plain" ++ ".<locals>." ++ "<lambda>") ((kidE 2 (kidE 1 (asgV ((defBody (top 29)).getD 7 (top 0))))))
  | 18 => lamOf ("_law_plain" ++ ".<locals>." ++ "<lambda>") ((kidE 1 (kidE 1 (asgV ((defBody (top 29)).getD 7 (top 0))))))
  | 19 => lamOf ("_law_plain" ++ ".<locals>." ++ "<lambda>") ((kidE 0 (kidE 1 (asgV ((defBody (top 29)).getD 7 (top 0))))))
  | 20 => lamOf ("_law_plain" ++ ".<locals>." ++ "<lambda>") ((kidE 0 (kidE 1 (asgV ((defBody (top 29)).getD 8 (top 0))))))
  | _ => none
theorem lamTab_in {p p2 : Arguments} {b b2 : Expr} {s s2 : Scope} {q q2 : Str} (h : some (p, b, s, q) = some (p2, b2, s2, q2)) : p = p2 ∧ b = b2 ∧ s = s2 ∧ q = q2 := by cases h; exact ⟨rfl, rfl, rfl, rfl⟩
structure Fx (P : Program) (w : World) (K : PySem.W.Frag) (mg : Str → Option Value) (base : Heap) (G : Gl) : Prop where
  hK : G.K = K
  d_check_text : DefAt K mg "check_text" (top 5)
  d_runs : DefAt K mg "runs" (top 6)
  d_from_runs : DefTab K mg base G "from_runs" (top 7) ("from_runs" ++ ".<locals>." ++ "<genexpr>")
  d_told_runs : DefTab K mg base G "told_runs" (top 8) ("told_runs" ++ ".<locals>." ++ "<genexpr>")
  d_read_runs : DefAt K mg "read_runs" (top 9)
  d_packs : DefAt K mg "packs" (top 10)
  d_others : DefAt K mg "others" (top 11)
  d_from_packs : DefAt K mg "from_packs" (top 12)
  d_size_of : DefTab K mg base G "size_of" (top 13) ("size_of" ++ ".<locals>." ++ "<genexpr>")
  d_gaps_of : DefTab K mg base G "gaps_of" (top 14) ("gaps_of" ++ ".<locals>." ++ "<genexpr>")
  d_bit_runs : DefTab K mg base G "bit_runs" (top 15) ("bit_runs" ++ ".<locals>." ++ "<genexpr>")
  d_from_bit_runs : DefTab K mg base G "from_bit_runs" (top 16) ("from_bit_runs" ++ ".<locals>." ++ "<genexpr>")
  d_longest : DefAt K mg "longest" (top 17)
  d_saved : DefAt K mg "saved" (top 18)
  d__law_dice : DefAt K mg "_law_dice" (top 20)
  d__law_roll : DefAt K mg "_law_roll" (top 21)
  d__law_rounds : DefAt K mg "_law_rounds" (top 22)
  d__law_told : DefAt K mg "_law_told" (top 23)
  d__law_text : DefAt K mg "_law_text" (top 24)
  d__law_runs : DefAt K mg "_law_runs" (top 25)
  d__law_read : DefAt K mg "_law_read" (top 26)
  d__law_cut : DefAt K mg "_law_cut" (top 27)
  d__law_packs : DefAt K mg "_law_packs" (top 28)
  d__law_plain : DefTab K mg base G "_law_plain" (top 29) ("_law_plain" ++ ".<locals>." ++ "<lambda>")
  d_law : DefTab K mg base G "law" (top 30) ("law" ++ ".<locals>." ++ "<lambda>")
  f_abs : mg "abs" = none
  f_any : mg "any" = none
  f_enumerate : mg "enumerate" = none
  f_int : mg "int" = none
  f_len : mg "len" = none
  f_list : mg "list" = none
  f_max : mg "max" = none
  f_min : mg "min" = none
  f_range : mg "range" = none
  f_str : mg "str" = none
  f_sum : mg "sum" = none
  f_tuple : mg "tuple" = none
  c_MOST_TEXT : ∃ u, mg "MOST_TEXT" = some u ∧ RelV (.int 400) u
  x_RunError : ExZ K mg G 1 "RunError"
  lam : G.lam = lamTab
  sub : ∀ n b, subE n = some b → PySem.W.exmOne K (.ref (G.ca n)) (.ref (G.ca 1)) = some b
theorem sc__law_told : FnScope ["what"] ["what"] (defScope (top 23)) := ⟨rfl, rfl, rfl, by decide +kernel, rfl, by decide +kernel, by decide +kernel⟩
theorem told_z {X : Cx} {k : Nat} {P : Program} {w : World} {K : PySem.W.Frag} {mg : Str → Option Value} {base : Heap} {G : Gl} (fx : Fx P w K mg base G) (eK : X.K = K) (eg : X.mg = mg) : ToldZ X k "_law_told" (G.ca 1) [82, 117, 110, 69, 114, 114, 111, 114] :=
  told_of (a := "what") (e := "RunError") fx.d__law_told eK eg rfl (fun _ _ _ _ _ _ us hl => match us, hl with | [_], _ => rfl) sc__law_told (.inl rfl) rfl fx.x_RunError.gm (by decide) (by decide) (by decide)

section
variable {P : Program} {w : World} {K : PySem.W.Frag} {mg : Str → Option Value} {base : Heap} {G : Gl}
/-! check_text -/
def b_check_text : SM :=
  (sIf (tB1 (eBin opGt (eBi bLen (aCons (eLook 0) aNil)) (eC (.int 400)))) (sRaise 1) sNx)
def m_check_text : FM := mkF 1 b_check_text
theorem sc_check_text : FnScope ["text"] ["text"] (defScope (top 5)) := ⟨rfl, rfl, rfl, by decide +kernel, rfl, by decide +kernel, by decide +kernel⟩
theorem z_check_text (fx : Fx P w K mg base G) : FnZ P w K mg base G 1 "check_text" 1 m_check_text := by
  obtain ⟨f, fd, F, gm⟩ := fx.d_check_text
  have hK := fx.hK
  refine ⟨⟨f, fd, _, rfl, fn_ok (k := 0) F sc_check_text (fun W c A outer s H E hcode hr => ?_), gm, F.kp, F.bindsN fun _ _ _ _ _ _ us hl => match us, hl with | [_], _ => rfl⟩⟩
  have hN : List.Nodup (["text"] : List Str) := by decide +kernel
  exact (ss_one (s_if (t_cmp o_gt (s_cmp _ _) (toB (e_bi call_len (s_len hK) fx.f_len (by kernel_rfl) (ab_cons (b_look (i := 0)) ab_nil))) (toB (e_gint fx.c_MOST_TEXT))) (ss_one (s_raise rfl takes_fn (mk_ex fx.x_RunError))) ss_nil))
/-! runs -/
def b_runs : SM :=
  (sSeq (sDo (eCall 1 m_check_text (aCons (eVar 0) aNil)))
    (sSeq (sSetN 1 (eLst aNil))
    (sSeq (sFor (.n 2) (iOf (eVar 0)) (sIf (tAndM (tB1 (eBin opNe (eLook 1) (eLst aNil))) (tB1 (eBin opEq (eBin opIx (eBin opIx (eLook 1) (eNeg (eC (.int 1)))) (eC (.int 0))) (eLook 2)))) (sPut 1 (eNeg (eC (.int 1))) (eTup (aCons (eVar 2) (aCons (eBin opAdd (eBin opIx (eBin opIx (eLook 1) (eNeg (eC (.int 1)))) (eC (.int 1))) (eC (.int 1))) aNil)))) (sWm wAppend 1 (aCons (eTup (aCons (eVar 2) (aCons (eC (.int 1)) aNil))) aNil))))
    (sRet (eBi bTuple (aCons (eLook 1) aNil))))))
def m_runs : FM := mkF 3 b_runs
theorem sc_runs : FnScope ["text", "found", "sign"] ["text"] (defScope (top 6)) := ⟨rfl, rfl, rfl, by decide +kernel, rfl, by decide +kernel, by decide +kernel⟩
theorem z_runs (fx : Fx P w K mg base G) : FnZ P w K mg base G 2 "runs" 1 m_runs := by
  obtain ⟨f, fd, F, gm⟩ := fx.d_runs
  have hK := fx.hK
  refine ⟨⟨f, fd, _, rfl, fn_ok (k := 1) F sc_runs (fun W c A outer s H E hcode hr => ?_), gm, F.kp, F.bindsN fun _ _ _ _ _ _ us hl => match us, hl with | [_], _ => rfl⟩⟩
  have hN : List.Nodup (["text", "found", "sign"] : List Str) := by decide +kernel
  exact (ss_cons (s_do (e_call (z_check_text fx) hr takes_fn (a_cons (e_var (i := 0)) a_nil) (hk := by omega)))
    (ss_cons (s_setN (i := 1) hN (n_lst a_nil))
    (ss_cons (s_for owns_fn rfl (g_name hN) (i_of hK (e_var (i := 0))) (ss_one (s_if (PW.pt (w_and (t_cmp (oNe hr) (s_ne hK) (b_look (i := 1)) (toB (n_e (n_lst a_nil)))) (w_and1 (t_cmp (oEq hr) (s_eq hK) (toB (e_ix hK (toB (e_ix hK (b_look (i := 1)) (e_neg e_int))) e_int)) (b_look (i := 2)))))) (ss_one (s_put (i := 1) (e_neg e_int) (e_tup (a_cons (e_var (i := 2)) (a_cons (e_binB op_addAll (s_add hK) (toB (e_ix hK (toB (e_ix hK (b_look (i := 1)) (e_neg e_int))) e_int)) (toB e_int)) a_nil))))) (ss_one (wm_do s_append (pe_wm (i := 1) PySem.F.slot_list_append PySem.F.type_list_append mt_append (a_cons (e_tup (a_cons (e_var (i := 2)) (a_cons e_int a_nil))) a_nil)))))))
    (ss_one (s_ret (e_biT call_tuple_of (s_tuple hK) fx.f_tuple (by kernel_rfl) (ab_cons (b_look (i := 1)) ab_nil)))))))
/-! from_runs -/
def b_from_runs : SM :=
  (sSeq (sIf (tOrM (tB1 (eAny (.t [(.n 1), (.n 2)]) [1, 2] (iOf (eVar 0)) tYesM (eOr (eBin opNe (eBi bLen (aCons (eLook 1) aNil)) (eC (.int 1))) (eBin opLt (eLook 2) (eC (.int 1)))))) (tB1 (eBin opGt (eSumG (.t [(.n 1), (.n 2)]) [1, 2] (iOf (eVar 0)) tYesM (eVar 2)) (eC (.int 400))))) (sRaise 1) sNx)
    (sRet (eM1 mJoin (eC (.str [])) (eLc (.t [(.n 1), (.n 2)]) [1, 2] (iOf (eVar 0)) tYesM (eBin opMul (eLook 1) (eLook 2))))))
def m_from_runs : FM := mkF 3 b_from_runs
theorem sc_from_runs : FnScope ["rows", "sign", "many"] ["rows"] (defScope (top 7)) := ⟨rfl, rfl, rfl, by decide +kernel, rfl, by decide +kernel, by decide +kernel⟩
theorem z_from_runs (fx : Fx P w K mg base G) : FnZ P w K mg base G 2 "from_runs" 1 m_from_runs := by
  obtain ⟨f, fd, c0, P0, F, gm, hc0, TB, tab, uni⟩ := fx.d_from_runs
  have hK := fx.hK
  refine ⟨⟨f, fd, _, rfl, fn_ok (k := 1) F sc_from_runs (fun W c A outer s H E hcode hr => ?_), gm, F.kp, F.bindsN fun _ _ _ _ _ _ us hl => match us, hl with | [_], _ => rfl⟩⟩
  obtain rfl := same_code hc0 hcode
  have hN : List.Nodup (["rows", "sign", "many"] : List Str) := by decide +kernel
  exact (ss_cons (s_if (PW.pt (w_or (t_val (e_any (k := 0) (own := [("sign", 1), ("many", 2)]) ⟨hr.mono (by omega), TB, rfl, tab, uni, gx_by (by kernel_rfl), hN, rfl, (i_of hK (e_var (i := 0))), fun _ => rfl, fun _ _ _ _ _ _ _ hr3 => (g_tup hK rfl (gs_cons (g_name hN) (gs_cons (g_name hN) gs_nil))), fun _ _ _ _ _ _ _ hr3 => t_yes, fun _ _ _ _ _ _ _ hr3 => (e_or (e_cmp (oNe hr3) (s_ne hK) (toB (e_bi call_len (s_len hK) fx.f_len (by kernel_rfl) (ab_cons (b_look (i := 1)) ab_nil))) (toB e_int)) (pe_one (e_cmp o_lt (s_cmp _ _) (b_look (i := 2)) (toB e_int))))⟩ fx.f_any)) (w_or1 (t_cmp o_gt (s_cmp _ _) (toB (e_sumG (k := 0) (own := [("sign", 1), ("many", 2)]) ⟨hr.mono (by omega), TB, rfl, tab, uni, gx_by (by kernel_rfl), hN, rfl, (i_of hK (e_var (i := 0))), fun _ => rfl, fun _ _ _ _ _ _ _ hr3 => (g_tup hK rfl (gs_cons (g_name hN) (gs_cons (g_name hN) gs_nil))), fun _ _ _ _ _ _ _ hr3 => t_yes, fun _ _ _ _ _ _ _ hr3 => (e_var (i := 2))⟩ fx.f_sum)) (toB (e_gint fx.c_MOST_TEXT)))))) (ss_one (s_raise rfl takes_fn (mk_ex fx.x_RunError))) ss_nil)
    (ss_one (s_ret (e_m1 (s_join hK) PySem.F.slot_str_join PySem.F.type_str_join mt_join (e_str (l := [])) (toB (n_e (n_lc [("sign", 1), ("many", 2)] rfl hN (i_of hK (e_var (i := 0))) (blkOk_by (by kernel_rfl)) (fun _ _ _ _ _ => (g_tup hK rfl (gs_cons (g_name hN) (gs_cons (g_name hN) gs_nil)))) (fun _ _ _ _ _ => t_yes) (fun _ _ _ _ _ => (e_binB op_mulAll s_mul (b_look (i := 1)) (b_look (i := 2)))))))))))
/-! told_runs -/
def b_told_runs : SM :=
  (sSeq (sIf (tB1 (eAny (.n 1) [1] (iOf (eVar 0)) tYesM (eBin opIn (eLook 1) (eC (.str [48, 49, 50, 51, 52, 53, 54, 55, 56, 57]))))) (sRaise 1) sNx)
    (sRet (eM1 mJoin (eC (.str [])) (eLc (.t [(.n 1), (.n 2)]) [1, 2] (iOf (eCall 1 m_runs (aCons (eVar 0) aNil))) tYesM (eBin opAdd (eIf (tB1 (eBin opGt (eLook 2) (eC (.int 1)))) (eFmt (eVar 2)) (eC (.str []))) (eLook 1))))))
def m_told_runs : FM := mkF 3 b_told_runs
theorem sc_told_runs : FnScope ["text", "sign", "many"] ["text"] (defScope (top 8)) := ⟨rfl, rfl, rfl, by decide +kernel, rfl, by decide +kernel, by decide +kernel⟩
theorem z_told_runs (fx : Fx P w K mg base G) : FnZ P w K mg base G 3 "told_runs" 1 m_told_runs := by
  obtain ⟨f, fd, c0, P0, F, gm, hc0, TB, tab, uni⟩ := fx.d_told_runs
  have hK := fx.hK
  refine ⟨⟨f, fd, _, rfl, fn_ok (k := 2) F sc_told_runs (fun W c A outer s H E hcode hr => ?_), gm, F.kp, F.bindsN fun _ _ _ _ _ _ us hl => match us, hl with | [_], _ => rfl⟩⟩
  obtain rfl := same_code hc0 hcode
  have hN : List.Nodup (["text", "sign", "many"] : List Str) := by decide +kernel
  exact (ss_cons (s_if (t_val (e_any (k := 0) (own := [("sign", 1)]) ⟨hr.mono (by omega), TB, rfl, tab, uni, gx_by (by kernel_rfl), hN, rfl, (i_of hK (e_var (i := 0))), fun _ => rfl, fun _ _ _ _ _ _ _ hr3 => (g_name hN), fun _ _ _ _ _ _ _ hr3 => t_yes, fun _ _ _ _ _ _ _ hr3 => (e_cmp (oIn hr3) (s_in hK) (b_look (i := 1)) (toB (e_str (l := [48, 49, 50, 51, 52, 53, 54, 55, 56, 57]))))⟩ fx.f_any)) (ss_one (s_raise rfl takes_fn (mk_ex fx.x_RunError))) ss_nil)
    (ss_one (s_ret (e_m1 (s_join hK) PySem.F.slot_str_join PySem.F.type_str_join mt_join (e_str (l := [])) (toB (n_e (n_lc [("sign", 1), ("many", 2)] rfl hN (i_of hK (e_call (z_runs fx) hr takes_fn (a_cons (e_var (i := 0)) a_nil) (hk := by omega))) (blkOk_by (by kernel_rfl)) (fun _ _ _ _ _ => (g_tup hK rfl (gs_cons (g_name hN) (gs_cons (g_name hN) gs_nil)))) (fun _ _ _ _ _ => t_yes) (fun _ _ _ _ _ => (e_binB op_addAll (s_add hK) (toB (e_if (t_cmp o_gt (s_cmp _ _) (b_look (i := 2)) (toB e_int)) (e_joined1 (e_fmt (e_var (i := 2)))) (e_str (l := [])))) (b_look (i := 1)))))))))))
/-! read_runs -/
def b_read_runs : SM :=
  (sSeq (sPar 1 2 (vN (eLst aNil)) (vE (eC (.str []))))
    (sSeq (sFor (.n 3) (iOf (eVar 0)) (sIf (tB1 (eBin opIn (eLook 3) (eC (.str [48, 49, 50, 51, 52, 53, 54, 55, 56, 57])))) (sSeq (sAug 2 opIAdd (eVar 3))
    (sIf (tOrM (tB1 (eBin opGt (eBi bLen (aCons (eLook 2) aNil)) (eC (.int 3)))) (tB1 (eBin opEq (eBin opIx (eLook 2) (eC (.int 0))) (eC (.str [48]))))) (sRaise 1) sNx)) (sSeq (sIf (tB1 (eBin opEq (eLook 2) (eC (.str [49])))) (sRaise 1) sNx)
    (sSeq (sWm wAppend 1 (aCons (eTup (aCons (eVar 3) (aCons (eIf (tB1 (eBin opNe (eLook 2) (eC (.str [])))) (eBi bInt (aCons (eLook 2) aNil)) (eC (.int 1))) aNil))) aNil))
    (sSet 2 (eC (.str [])))))))
    (sSeq (sIf (tB1 (eBin opNe (eLook 2) (eC (.str [])))) (sRaise 1) sNx)
    (sFz 1 (sRet (eCall 1 m_from_runs (aCons (eVar 1) aNil)))))))
def m_read_runs : FM := mkF 4 b_read_runs
theorem sc_read_runs : FnScope ["text", "found", "number", "sign"] ["text"] (defScope (top 9)) := ⟨rfl, rfl, rfl, by decide +kernel, rfl, by decide +kernel, by decide +kernel⟩
theorem z_read_runs (fx : Fx P w K mg base G) : FnZ P w K mg base G 3 "read_runs" 1 m_read_runs := by
  obtain ⟨f, fd, F, gm⟩ := fx.d_read_runs
  have hK := fx.hK
  refine ⟨⟨f, fd, _, rfl, fn_ok (k := 2) F sc_read_runs (fun W c A outer s H E hcode hr => ?_), gm, F.kp, F.bindsN fun _ _ _ _ _ _ us hl => match us, hl with | [_], _ => rfl⟩⟩
  have hN : List.Nodup (["text", "found", "number", "sign"] : List Str) := by decide +kernel
  exact (ss_cons (s_par (i := 1) (j := 2) rfl hN (v_n (n_lst a_nil)) (v_e (e_str (l := []))))
    (ss_cons (s_for owns_fn rfl (g_name hN) (i_of hK (e_var (i := 0))) (ss_one (s_if (t_cmp (oIn hr) (s_in hK) (b_look (i := 3)) (toB (e_str (l := [48, 49, 50, 51, 52, 53, 54, 55, 56, 57])))) (ss_cons (s_aug (i := 2) hN o_iadd s_iadd (e_var (i := 3)))
    (ss_one (s_if (PW.pt (w_or (t_cmp o_gt (s_cmp _ _) (toB (e_bi call_len (s_len hK) fx.f_len (by kernel_rfl) (ab_cons (b_look (i := 2)) ab_nil))) (toB e_int)) (w_or1 (t_cmp (oEq hr) (s_eq hK) (toB (e_ix hK (b_look (i := 2)) e_int)) (toB (e_str (l := [48]))))))) (ss_one (s_raise rfl takes_fn (mk_ex fx.x_RunError))) ss_nil))) (ss_cons (s_if (t_cmp (oEq hr) (s_eq hK) (b_look (i := 2)) (toB (e_str (l := [49])))) (ss_one (s_raise rfl takes_fn (mk_ex fx.x_RunError))) ss_nil)
    (ss_cons (wm_do s_append (pe_wm (i := 1) PySem.F.slot_list_append PySem.F.type_list_append mt_append (a_cons (e_tup (a_cons (e_var (i := 3)) (a_cons (e_if (t_cmp (oNe hr) (s_ne hK) (b_look (i := 2)) (toB (e_str (l := [])))) (e_biT call_intAll s_int fx.f_int (by kernel_rfl) (ab_cons (b_look (i := 2)) ab_nil)) e_int) a_nil))) a_nil)))
    (ss_one (s_set (i := 2) hN (e_str (l := [])))))))))
    (ss_cons (s_if (t_cmp (oNe hr) (s_ne hK) (b_look (i := 2)) (toB (e_str (l := [])))) (ss_one (s_raise rfl takes_fn (mk_ex fx.x_RunError))) ss_nil)
    (ss_one (s_fz (s_ret (e_call (z_from_runs fx) hr takes_fn (a_cons (e_var (i := 1)) a_nil) (hk := by omega))))))))
/-! others -/
def b_others : SM :=
  (sRet (eLc (.n 2) [2] (iR3 (aCons (eC (.int 0)) (aCons (eBi bLen (aCons (eLook 0) aNil)) (aCons (eVar 1) aNil)))) tYesM (eTup (aCons (eC (.str [111, 116, 104, 101, 114])) (aCons (eSl (eLook 0) (pAt (eVar 2)) (pAt (eBin opAdd (eLook 2) (eLook 1)))) aNil)))))
def m_others : FM := mkF 3 b_others
theorem sc_others : FnScope ["held", "most", "place"] ["held", "most"] (defScope (top 11)) := ⟨rfl, rfl, rfl, by decide +kernel, rfl, by decide +kernel, by decide +kernel⟩
theorem z_others (fx : Fx P w K mg base G) : FnZ P w K mg base G 1 "others" 2 m_others := by
  obtain ⟨f, fd, F, gm⟩ := fx.d_others
  have hK := fx.hK
  refine ⟨⟨f, fd, _, rfl, fn_ok (k := 0) F sc_others (fun W c A outer s H E hcode hr => ?_), gm, F.kp, F.bindsN fun _ _ _ _ _ _ us hl => match us, hl with | [_, _], _ => rfl⟩⟩
  have hN : List.Nodup (["held", "most", "place"] : List Str) := by decide +kernel
  exact (ss_one (s_ret (n_e (n_lc [("place", 2)] rfl hN (i_r3 fx.f_range (a_cons e_int (a_cons (e_bi call_len (s_len hK) fx.f_len (by kernel_rfl) (ab_cons (b_look (i := 0)) ab_nil)) (a_cons (e_var (i := 1)) a_nil)))) (blkOk_by (by kernel_rfl)) (fun _ _ _ _ _ => (g_name hN)) (fun _ _ _ _ _ => t_yes) (fun _ _ _ _ _ => (e_tup (a_cons (e_str (l := [111, 116, 104, 101, 114])) (a_cons (e_sl hK (b_look (i := 0)) (p_at (e_var (i := 2))) (p_at (e_binB op_addAll (s_add hK) (b_look (i := 2)) (b_look (i := 1))))) a_nil))))))))
/-! packs -/
def b_packs : SM :=
  (sSeq (sDo (eCall 1 m_check_text (aCons (eVar 0) aNil)))
    (sSeq (sIf (tOrM (tB1 (eBin opLt (eLook 1) (eC (.int 2)))) (tB1 (eBin opLt (eLook 2) (eLook 1)))) (sRaise 1) sNx)
    (sSeq (sPar 3 4 (vN (eLst aNil)) (vE (eC (.str []))))
    (sSeq (sFor (.t [(.n 5), (.n 6)]) (iOf (eCall 1 m_runs (aCons (eVar 0) aNil))) (sSeq (sWhile 1000000 (tB1 (eBin opGe (eLook 6) (eLook 1))) (sSeq (sExt 3 (eCall 2 m_others (aCons (eVar 4) (aCons (eVar 2) aNil))))
    (sSeq (sSet 4 (eC (.str [])))
    (sSeq (sSet 7 (eBi bMin2 (aCons (eLook 6) (aCons (eLook 2) aNil))))
    (sSeq (sWm wAppend 3 (aCons (eTup (aCons (eC (.str [115, 97, 109, 101])) (aCons (eVar 5) (aCons (eVar 7) aNil)))) aNil))
    (sAug 6 opSub (eVar 7)))))))
    (sAug 4 opIAdd (eBin opMul (eLook 5) (eLook 6)))))
    (sRet (eBi bTuple (aCons (eBin opAdd (eLook 3) (eCall 2 m_others (aCons (eVar 4) (aCons (eVar 2) aNil)))) aNil)))))))
def m_packs : FM := mkF 8 b_packs
theorem sc_packs : FnScope ["text", "least", "most", "found", "held", "sign", "many", "part"] ["text", "least", "most"] (defScope (top 10)) := ⟨rfl, rfl, rfl, by decide +kernel, rfl, by decide +kernel, by decide +kernel⟩
theorem z_packs (fx : Fx P w K mg base G) : FnZ P w K mg base G 3 "packs" 3 m_packs := by
  obtain ⟨f, fd, F, gm⟩ := fx.d_packs
  have hK := fx.hK
  refine ⟨⟨f, fd, _, rfl, fn_ok (k := 2) F sc_packs (fun W c A outer s H E hcode hr => ?_), gm, F.kp, F.bindsN fun _ _ _ _ _ _ us hl => match us, hl with | [_, _, _], _ => rfl⟩⟩
  have hN : List.Nodup (["text", "least", "most", "found", "held", "sign", "many", "part"] : List Str) := by decide +kernel
  exact (ss_cons (s_do (e_call (z_check_text fx) hr takes_fn (a_cons (e_var (i := 0)) a_nil) (hk := by omega)))
    (ss_cons (s_if (PW.pt (w_or (t_cmp o_lt (s_cmp _ _) (b_look (i := 1)) (toB e_int)) (w_or1 (t_cmp o_lt (s_cmp _ _) (b_look (i := 2)) (b_look (i := 1)))))) (ss_one (s_raise rfl takes_fn (mk_ex fx.x_RunError))) ss_nil)
    (ss_cons (s_par (i := 3) (j := 4) rfl hN (v_n (n_lst a_nil)) (v_e (e_str (l := []))))
    (ss_cons (s_for owns_fn rfl (g_tup hK rfl (gs_cons (g_name hN) (gs_cons (g_name hN) gs_nil))) (i_of hK (e_call (z_runs fx) hr takes_fn (a_cons (e_var (i := 0)) a_nil) (hk := by omega))) (ss_cons (s_while owns_fn (t_cmp o_ge (s_cmp _ _) (b_look (i := 6)) (b_look (i := 1))) (ss_cons (s_ext (i := 3) hN (toB (e_call (z_others fx) hr takes_fn (a_cons (e_var (i := 4)) (a_cons (e_var (i := 2)) a_nil)) (hk := by omega))))
    (ss_cons (s_set (i := 4) hN (e_str (l := [])))
    (ss_cons (s_set (i := 7) hN (e_bi (call_min2 rfl) s_min2 fx.f_min (by kernel_rfl) (ab_cons (b_look (i := 6)) (ab_cons (b_look (i := 2)) ab_nil))))
    (ss_cons (wm_do s_append (pe_wm (i := 3) PySem.F.slot_list_append PySem.F.type_list_append mt_append (a_cons (e_tup (a_cons (e_str (l := [115, 97, 109, 101])) (a_cons (e_var (i := 5)) (a_cons (e_var (i := 7)) a_nil)))) a_nil)))
    (ss_one (s_aug (i := 6) hN iop_sub s_isub (e_var (i := 7)))))))))
    (ss_one (s_aug (i := 4) hN o_iadd s_iadd (e_binB op_mulAll s_mul (b_look (i := 5)) (b_look (i := 6)))))))
    (ss_one (s_ret (e_biT call_tuple_of (s_tuple hK) fx.f_tuple (by kernel_rfl) (ab_cons (toB (e_binB op_addAll (s_add hK) (b_look (i := 3)) (toB (e_call (z_others fx) hr takes_fn (a_cons (e_var (i := 4)) (a_cons (e_var (i := 2)) a_nil)) (hk := by omega))))) ab_nil))))))))
/-! from_packs -/
def b_from_packs : SM :=
  (sSeq (sSet 1 (eC (.str [])))
    (sSeq (sFor (.n 2) (iOf (eVar 0)) (sSeq (sIf (tAndM (tB1 (eBin opEq (eBin opIx (eLook 2) (eC (.int 0))) (eC (.str [115, 97, 109, 101])))) (tAndM (tB1 (eBin opEq (eBi bLen (aCons (eLook 2) aNil)) (eC (.int 3)))) (tAndM (tB1 (eBin opEq (eBi bLen (aCons (eBin opIx (eLook 2) (eC (.int 1))) aNil)) (eC (.int 1)))) (tB1 (eBin opGt (eBin opIx (eLook 2) (eC (.int 2))) (eC (.int 0))))))) (sAug 1 opIAdd (eBin opMul (eBin opIx (eLook 2) (eC (.int 1))) (eBi bMin2 (aCons (eBin opIx (eLook 2) (eC (.int 2))) (aCons (eBin opAdd (eC (.int 400)) (eC (.int 1))) aNil))))) (sIf (tAndM (tB1 (eBin opEq (eBin opIx (eLook 2) (eC (.int 0))) (eC (.str [111, 116, 104, 101, 114])))) (tAndM (tB1 (eBin opEq (eBi bLen (aCons (eLook 2) aNil)) (eC (.int 2)))) (tB1 (eBin opNe (eBin opIx (eLook 2) (eC (.int 1))) (eC (.str [])))))) (sAug 1 opIAdd (eBin opIx (eLook 2) (eC (.int 1)))) (sRaise 1)))
    (sDo (eCall 1 m_check_text (aCons (eVar 1) aNil)))))
    (sRet (eVar 1))))
def m_from_packs : FM := mkF 3 b_from_packs
theorem sc_from_packs : FnScope ["rows", "found", "row"] ["rows"] (defScope (top 12)) := ⟨rfl, rfl, rfl, by decide +kernel, rfl, by decide +kernel, by decide +kernel⟩
theorem z_from_packs (fx : Fx P w K mg base G) : FnZ P w K mg base G 2 "from_packs" 1 m_from_packs := by
  obtain ⟨f, fd, F, gm⟩ := fx.d_from_packs
  have hK := fx.hK
  refine ⟨⟨f, fd, _, rfl, fn_ok (k := 1) F sc_from_packs (fun W c A outer s H E hcode hr => ?_), gm, F.kp, F.bindsN fun _ _ _ _ _ _ us hl => match us, hl with | [_], _ => rfl⟩⟩
  have hN : List.Nodup (["rows", "found", "row"] : List Str) := by decide +kernel
  exact (ss_cons (s_set (i := 1) hN (e_str (l := [])))
    (ss_cons (s_for owns_fn rfl (g_name hN) (i_of hK (e_var (i := 0))) (ss_cons (s_if (PW.pt (w_and (t_cmp (oEq hr) (s_eq hK) (toB (e_ix hK (b_look (i := 2)) e_int)) (toB (e_str (l := [115, 97, 109, 101])))) (w_and (t_cmp (oEq hr) (s_eq hK) (toB (e_bi call_len (s_len hK) fx.f_len (by kernel_rfl) (ab_cons (b_look (i := 2)) ab_nil))) (toB e_int)) (w_and (t_cmp (oEq hr) (s_eq hK) (toB (e_bi call_len (s_len hK) fx.f_len (by kernel_rfl) (ab_cons (toB (e_ix hK (b_look (i := 2)) e_int)) ab_nil))) (toB e_int)) (w_and1 (t_cmp o_gt (s_cmp _ _) (toB (e_ix hK (b_look (i := 2)) e_int)) (toB e_int))))))) (ss_one (s_aug (i := 1) hN o_iadd s_iadd (e_binB op_mulAll s_mul (toB (e_ix hK (b_look (i := 2)) e_int)) (toB (e_bi (call_min2 rfl) s_min2 fx.f_min (by kernel_rfl) (ab_cons (toB (e_ix hK (b_look (i := 2)) e_int)) (ab_cons (toB (e_binB op_addAll (s_add hK) (toB (e_gint fx.c_MOST_TEXT)) (toB e_int))) ab_nil))))))) (ss_one (s_if (PW.pt (w_and (t_cmp (oEq hr) (s_eq hK) (toB (e_ix hK (b_look (i := 2)) e_int)) (toB (e_str (l := [111, 116, 104, 101, 114])))) (w_and (t_cmp (oEq hr) (s_eq hK) (toB (e_bi call_len (s_len hK) fx.f_len (by kernel_rfl) (ab_cons (b_look (i := 2)) ab_nil))) (toB e_int)) (w_and1 (t_cmp (oNe hr) (s_ne hK) (toB (e_ix hK (b_look (i := 2)) e_int)) (toB (e_str (l := [])))))))) (ss_one (s_aug (i := 1) hN o_iadd s_iadd (e_ix hK (b_look (i := 2)) e_int))) (ss_one (s_raise rfl takes_fn (mk_ex fx.x_RunError))))))
    (ss_one (s_do (e_call (z_check_text fx) hr takes_fn (a_cons (e_var (i := 1)) a_nil) (hk := by omega))))))
    (ss_one (s_ret (e_var (i := 1))))))
/-! size_of -/
def b_size_of : SM :=
  (sSeq (sDo (eCall 1 m_from_packs (aCons (eVar 0) aNil)))
    (sRet (eSumG (.n 1) [1] (iOf (eVar 0)) tYesM (eIf (tB1 (eBin opEq (eBin opIx (eLook 1) (eC (.int 0))) (eC (.str [115, 97, 109, 101])))) (eC (.int 2)) (eBin opAdd (eC (.int 1)) (eBi bLen (aCons (eBin opIx (eLook 1) (eC (.int 1))) aNil)))))))
def m_size_of : FM := mkF 2 b_size_of
theorem sc_size_of : FnScope ["rows", "row"] ["rows"] (defScope (top 13)) := ⟨rfl, rfl, rfl, by decide +kernel, rfl, by decide +kernel, by decide +kernel⟩
theorem z_size_of (fx : Fx P w K mg base G) : FnZ P w K mg base G 3 "size_of" 1 m_size_of := by
  obtain ⟨f, fd, c0, P0, F, gm, hc0, TB, tab, uni⟩ := fx.d_size_of
  have hK := fx.hK
  refine ⟨⟨f, fd, _, rfl, fn_ok (k := 2) F sc_size_of (fun W c A outer s H E hcode hr => ?_), gm, F.kp, F.bindsN fun _ _ _ _ _ _ us hl => match us, hl with | [_], _ => rfl⟩⟩
  obtain rfl := same_code hc0 hcode
  have hN : List.Nodup (["rows", "row"] : List Str) := by decide +kernel
  exact (ss_cons (s_do (e_call (z_from_packs fx) hr takes_fn (a_cons (e_var (i := 0)) a_nil) (hk := by omega)))
    (ss_one (s_ret (e_sumG (k := 0) (own := [("row", 1)]) ⟨hr.mono (by omega), TB, rfl, tab, uni, gx_by (by kernel_rfl), hN, rfl, (i_of hK (e_var (i := 0))), fun _ => rfl, fun _ _ _ _ _ _ _ hr3 => (g_name hN), fun _ _ _ _ _ _ _ hr3 => t_yes, fun _ _ _ _ _ _ _ hr3 => (e_if (t_cmp (oEq hr3) (s_eq hK) (toB (e_ix hK (b_look (i := 1)) e_int)) (toB (e_str (l := [115, 97, 109, 101])))) e_int (e_binB op_addAll (s_add hK) (toB e_int) (toB (e_bi call_len (s_len hK) fx.f_len (by kernel_rfl) (ab_cons (toB (e_ix hK (b_look (i := 1)) e_int)) ab_nil)))))⟩ fx.f_sum))))
/-! gaps_of -/
def b_gaps_of : SM :=
  (sSeq (sDo (eCall 1 m_check_text (aCons (eVar 0) aNil)))
    (sSeq (sIf (tB1 (eBin opNe (eBi bLen (aCons (eLook 1) aNil)) (eC (.int 1)))) (sRaise 1) sNx)
    (sRet (eTupG (.n 2) [2] (iOf (eM1 mSplit (eVar 0) (eLook 1))) tYesM (eBi bLen (aCons (eLook 2) aNil))))))
def m_gaps_of : FM := mkF 3 b_gaps_of
theorem sc_gaps_of : FnScope ["text", "sign", "part"] ["text", "sign"] (defScope (top 14)) := ⟨rfl, rfl, rfl, by decide +kernel, rfl, by decide +kernel, by decide +kernel⟩
theorem z_gaps_of (fx : Fx P w K mg base G) : FnZ P w K mg base G 2 "gaps_of" 2 m_gaps_of := by
  obtain ⟨f, fd, c0, P0, F, gm, hc0, TB, tab, uni⟩ := fx.d_gaps_of
  have hK := fx.hK
  refine ⟨⟨f, fd, _, rfl, fn_ok (k := 1) F sc_gaps_of (fun W c A outer s H E hcode hr => ?_), gm, F.kp, F.bindsN fun _ _ _ _ _ _ us hl => match us, hl with | [_, _], _ => rfl⟩⟩
  obtain rfl := same_code hc0 hcode
  have hN : List.Nodup (["text", "sign", "part"] : List Str) := by decide +kernel
  exact (ss_cons (s_do (e_call (z_check_text fx) hr takes_fn (a_cons (e_var (i := 0)) a_nil) (hk := by omega)))
    (ss_cons (s_if (t_cmp (oNe hr) (s_ne hK) (toB (e_bi call_len (s_len hK) fx.f_len (by kernel_rfl) (ab_cons (b_look (i := 1)) ab_nil))) (toB e_int)) (ss_one (s_raise rfl takes_fn (mk_ex fx.x_RunError))) ss_nil)
    (ss_one (s_ret (e_tupG (k := 0) (own := [("part", 2)]) ⟨hr.mono (by omega), TB, rfl, tab, uni, gx_by (by kernel_rfl), hN, rfl, (i_of hK (e_m1 s_split PySem.F.slot_str_split PySem.F.type_str_split mt_split (e_var (i := 0)) (b_look (i := 1)))), fun _ => rfl, fun _ _ _ _ _ _ _ hr3 => (g_name hN), fun _ _ _ _ _ _ _ hr3 => t_yes, fun _ _ _ _ _ _ _ hr3 => (e_bi call_len (s_len hK) fx.f_len (by kernel_rfl) (ab_cons (b_look (i := 2)) ab_nil))⟩ fx.f_tuple)))))
/-! bit_runs -/
def b_bit_runs : SM :=
  (sSeq (sIf (tB1 (eAny (.n 1) [1] (iOf (eVar 0)) tYesM (eBin opNotIn (eLook 1) (eC (.str [48, 49]))))) (sRaise 1) sNx)
    (sSeq (sSet 2 (eCall 1 m_runs (aCons (eVar 0) aNil)))
    (sSeq (sSet 3 (eLc (.t [(.n 1), (.n 4)]) [1, 4] (iOf (eVar 2)) tYesM (eVar 4)))
    (sRet (eBi bTuple (aCons (eBin opAdd (eIf (tAndM (tB1 (eBin opNe (eLook 2) (eTup aNil))) (tB1 (eBin opEq (eBin opIx (eBin opIx (eLook 2) (eC (.int 0))) (eC (.int 0))) (eC (.str [49]))))) (eLst (aCons (eC (.int 0)) aNil)) (eLst aNil)) (eLook 3)) aNil))))))
def m_bit_runs : FM := mkF 5 b_bit_runs
theorem sc_bit_runs : FnScope ["text", "sign", "rows", "found", "many"] ["text"] (defScope (top 15)) := ⟨rfl, rfl, rfl, by decide +kernel, rfl, by decide +kernel, by decide +kernel⟩
theorem z_bit_runs (fx : Fx P w K mg base G) : FnZ P w K mg base G 3 "bit_runs" 1 m_bit_runs := by
  obtain ⟨f, fd, c0, P0, F, gm, hc0, TB, tab, uni⟩ := fx.d_bit_runs
  have hK := fx.hK
  refine ⟨⟨f, fd, _, rfl, fn_ok (k := 2) F sc_bit_runs (fun W c A outer s H E hcode hr => ?_), gm, F.kp, F.bindsN fun _ _ _ _ _ _ us hl => match us, hl with | [_], _ => rfl⟩⟩
  obtain rfl := same_code hc0 hcode
  have hN : List.Nodup (["text", "sign", "rows", "found", "many"] : List Str) := by decide +kernel
  exact (ss_cons (s_if (t_val (e_any (k := 0) (own := [("sign", 1)]) ⟨hr.mono (by omega), TB, rfl, tab, uni, gx_by (by kernel_rfl), hN, rfl, (i_of hK (e_var (i := 0))), fun _ => rfl, fun _ _ _ _ _ _ _ hr3 => (g_name hN), fun _ _ _ _ _ _ _ hr3 => t_yes, fun _ _ _ _ _ _ _ hr3 => (e_cmp (oNotIn hr3) (s_notIn hK) (b_look (i := 1)) (toB (e_str (l := [48, 49]))))⟩ fx.f_any)) (ss_one (s_raise rfl takes_fn (mk_ex fx.x_RunError))) ss_nil)
    (ss_cons (s_set (i := 2) hN (e_call (z_runs fx) hr takes_fn (a_cons (e_var (i := 0)) a_nil) (hk := by omega)))
    (ss_cons (s_lc (i := 3) true [("sign", 1), ("many", 4)] rfl hN (i_of hK (e_var (i := 2))) (blkOk_by (by kernel_rfl)) (fun _ _ _ _ _ => (g_tup hK rfl (gs_cons (g_name hN) (gs_cons (g_name hN) gs_nil)))) (fun _ _ _ _ _ => t_yes) (fun _ _ _ _ _ => (e_var (i := 4))))
    (ss_one (s_ret (e_biT call_tuple_of (s_tuple hK) fx.f_tuple (by kernel_rfl) (ab_cons (toB (e_binB op_addAll (s_add hK) (toB (e_if (PW.pt (w_and (t_cmp (oNe hr) (s_ne hK) (b_look (i := 2)) (toB (e_tup a_nil))) (w_and1 (t_cmp (oEq hr) (s_eq hK) (toB (e_ix hK (toB (e_ix hK (b_look (i := 2)) e_int)) e_int)) (toB (e_str (l := [49]))))))) (n_e (n_lst (a_cons e_int a_nil))) (n_e (n_lst a_nil)))) (b_look (i := 3)))) ab_nil)))))))
/-! from_bit_runs -/
def b_from_bit_runs : SM :=
  (sSeq (sIf (tOrM (tB1 (eAny (.n 1) [1] (iOf (eVar 0)) tYesM (eBin opLt (eLook 1) (eC (.int 0))))) (tOrM (tB1 (eBin opIn (eC (.int 0)) (eSl (eLook 0) (pAt (eC (.int 1))) pNo))) (tB1 (eBin opGt (eBi bSumA (aCons (eLook 0) aNil)) (eC (.int 400)))))) (sRaise 1) sNx)
    (sRet (eM1 mJoin (eC (.str [])) (eLc (.t [(.n 2), (.n 1)]) [2, 1] (iEnA (aCons (eVar 0) aNil)) tYesM (eBin opMul (eBin opIx (eC (.str [48, 49])) (eBin opMod (eLook 2) (eC (.int 2)))) (eLook 1))))))
def m_from_bit_runs : FM := mkF 3 b_from_bit_runs
theorem sc_from_bit_runs : FnScope ["rows", "many", "place"] ["rows"] (defScope (top 16)) := ⟨rfl, rfl, rfl, by decide +kernel, rfl, by decide +kernel, by decide +kernel⟩
theorem z_from_bit_runs (fx : Fx P w K mg base G) : FnZ P w K mg base G 2 "from_bit_runs" 1 m_from_bit_runs := by
  obtain ⟨f, fd, c0, P0, F, gm, hc0, TB, tab, uni⟩ := fx.d_from_bit_runs
  have hK := fx.hK
  refine ⟨⟨f, fd, _, rfl, fn_ok (k := 1) F sc_from_bit_runs (fun W c A outer s H E hcode hr => ?_), gm, F.kp, F.bindsN fun _ _ _ _ _ _ us hl => match us, hl with | [_], _ => rfl⟩⟩
  obtain rfl := same_code hc0 hcode
  have hN : List.Nodup (["rows", "many", "place"] : List Str) := by decide +kernel
  exact (ss_cons (s_if (PW.pt (w_or (t_val (e_any (k := 0) (own := [("many", 1)]) ⟨hr.mono (by omega), TB, rfl, tab, uni, gx_by (by kernel_rfl), hN, rfl, (i_of hK (e_var (i := 0))), fun _ => rfl, fun _ _ _ _ _ _ _ hr3 => (g_name hN), fun _ _ _ _ _ _ _ hr3 => t_yes, fun _ _ _ _ _ _ _ hr3 => (e_cmp o_lt (s_cmp _ _) (b_look (i := 1)) (toB e_int))⟩ fx.f_any)) (w_or (t_cmp (oIn hr) (s_in hK) (toB e_int) (toB (e_sl hK (b_look (i := 0)) (p_at e_int) p_no))) (w_or1 (t_cmp o_gt (s_cmp _ _) (toB (e_bi (cr_sumA rfl) (s_sumA hK) fx.f_sum (by kernel_rfl) (ab_cons (b_look (i := 0)) ab_nil))) (toB (e_gint fx.c_MOST_TEXT))))))) (ss_one (s_raise rfl takes_fn (mk_ex fx.x_RunError))) ss_nil)
    (ss_one (s_ret (e_m1 (s_join hK) PySem.F.slot_str_join PySem.F.type_str_join mt_join (e_str (l := [])) (toB (n_e (n_lc [("place", 2), ("many", 1)] rfl hN (i_enA hK fx.f_enumerate (a_cons (e_var (i := 0)) a_nil)) (blkOk_by (by kernel_rfl)) (fun _ _ _ _ _ => (g_tup hK rfl (gs_cons (g_name hN) (gs_cons (g_name hN) gs_nil)))) (fun _ _ _ _ _ => t_yes) (fun _ _ _ _ _ => (e_binB op_mulAll s_mul (toB (e_ix hK (toB (e_str (l := [48, 49]))) (e_binB op_modN s_mod (b_look (i := 2)) (toB e_int)))) (b_look (i := 1)))))))))))
/-! longest -/
def b_longest : SM :=
  (sSeq (sTg (.t [(.n 1), (.n 2)]) (eTup (aCons (eC .non) (aCons (eC (.int 0)) aNil))))
    (sSeq (sFor (.t [(.n 3), (.n 4)]) (iOf (eCall 1 m_runs (aCons (eVar 0) aNil))) (sSeq (sIf (tOrM (tIsNM false (eVar 1)) (tB1 (eBin opGt (eLook 4) (eBin opIx (eLook 1) (eC (.int 1)))))) (sSet 1 (eTup (aCons (eVar 3) (aCons (eVar 4) (aCons (eVar 2) aNil))))) sNx)
    (sAug 2 opIAdd (eVar 4))))
    (sRet (eVar 1))))
def m_longest : FM := mkF 5 b_longest
theorem sc_longest : FnScope ["text", "best", "place", "sign", "many"] ["text"] (defScope (top 17)) := ⟨rfl, rfl, rfl, by decide +kernel, rfl, by decide +kernel, by decide +kernel⟩
theorem z_longest (fx : Fx P w K mg base G) : FnZ P w K mg base G 3 "longest" 1 m_longest := by
  obtain ⟨f, fd, F, gm⟩ := fx.d_longest
  have hK := fx.hK
  refine ⟨⟨f, fd, _, rfl, fn_ok (k := 2) F sc_longest (fun W c A outer s H E hcode hr => ?_), gm, F.kp, F.bindsN fun _ _ _ _ _ _ us hl => match us, hl with | [_], _ => rfl⟩⟩
  have hN : List.Nodup (["text", "best", "place", "sign", "many"] : List Str) := by decide +kernel
  exact (ss_cons (s_tg (e_tup (a_cons e_non (a_cons e_int a_nil))) (g_tup hK rfl (gs_cons (g_name hN) (gs_cons (g_name hN) gs_nil))))
    (ss_cons (s_for owns_fn rfl (g_tup hK rfl (gs_cons (g_name hN) (gs_cons (g_name hN) gs_nil))) (i_of hK (e_call (z_runs fx) hr takes_fn (a_cons (e_var (i := 0)) a_nil) (hk := by omega))) (ss_cons (s_if (PW.pt (w_or (t_isN (e_var (i := 1))) (w_or1 (t_cmp o_gt (s_cmp _ _) (b_look (i := 4)) (toB (e_ix hK (b_look (i := 1)) e_int)))))) (ss_one (s_set (i := 1) hN (e_tup (a_cons (e_var (i := 3)) (a_cons (e_var (i := 4)) (a_cons (e_var (i := 2)) a_nil)))))) ss_nil)
    (ss_one (s_aug (i := 2) hN o_iadd s_iadd (e_var (i := 4))))))
    (ss_one (s_ret (e_var (i := 1))))))
/-! saved -/
def b_saved : SM :=
  (sRet (eBin opSub (eBi bLen (aCons (eLook 0) aNil)) (eBi bLen (aCons (eCall 1 m_told_runs (aCons (eVar 0) aNil)) aNil))))
def m_saved : FM := mkF 1 b_saved
theorem sc_saved : FnScope ["text"] ["text"] (defScope (top 18)) := ⟨rfl, rfl, rfl, by decide +kernel, rfl, by decide +kernel, by decide +kernel⟩
theorem z_saved (fx : Fx P w K mg base G) : FnZ P w K mg base G 4 "saved" 1 m_saved := by
  obtain ⟨f, fd, F, gm⟩ := fx.d_saved
  have hK := fx.hK
  refine ⟨⟨f, fd, _, rfl, fn_ok (k := 3) F sc_saved (fun W c A outer s H E hcode hr => ?_), gm, F.kp, F.bindsN fun _ _ _ _ _ _ us hl => match us, hl with | [_], _ => rfl⟩⟩
  have hN : List.Nodup (["text"] : List Str) := by decide +kernel
  exact (ss_one (s_ret (e_binB op_sub s_sub (toB (e_bi call_len (s_len hK) fx.f_len (by kernel_rfl) (ab_cons (b_look (i := 0)) ab_nil))) (toB (e_bi call_len (s_len hK) fx.f_len (by kernel_rfl) (ab_cons (toB (e_call (z_told_runs fx) hr takes_fn (a_cons (e_var (i := 0)) a_nil) (hk := by omega))) ab_nil))))))
/-! _law_dice -/
def b__law_dice : SM :=
  (sSeq (sIf (tB1 (eChain opLt opLt (eBin opSub (eC (.int 0)) (eC (.int 10))) (eLook 0) (eC (.int 10)))) (sRet (eBox (eLst (aCons (eBi bAbs (aCons (eLook 0) aNil)) (aCons (eC (.int 0)) (aCons (eC (.int 2)) aNil)))))) sNx)
    (sRet (eBox (eLst (aCons (eVar 0) (aCons (eBin opAdd (eC (.int 1)) (eBin opMod (eBi bInt (aCons (eLook 0) aNil)) (eC (.int 1009)))) (aCons (eBi bInt (aCons (eBin opGe (eLook 0) (eBin opPow (eC (.int 10)) (eC (.int 18)))) aNil)) aNil)))))))
def m__law_dice : FM := mkF 1 b__law_dice
theorem sc__law_dice : FnScope ["cell"] ["cell"] (defScope (top 20)) := ⟨rfl, rfl, rfl, by decide +kernel, rfl, by decide +kernel, by decide +kernel⟩
theorem z__law_dice (fx : Fx P w K mg base G) : FnZ P w K mg base G 1 "_law_dice" 1 m__law_dice := by
  obtain ⟨f, fd, F, gm⟩ := fx.d__law_dice
  have hK := fx.hK
  refine ⟨⟨f, fd, _, rfl, fn_ok (k := 0) F sc__law_dice (fun W c A outer s H E hcode hr => ?_), gm, F.kp, F.bindsN fun _ _ _ _ _ _ us hl => match us, hl with | [_], _ => rfl⟩⟩
  have hN : List.Nodup (["cell"] : List Str) := by decide +kernel
  exact (ss_cons (s_if (t_chain o_lt o_lt (s_cmp _ _) (s_cmp _ _) (toB (e_binB op_sub s_sub (toB e_int) (toB e_int))) (b_look (i := 0)) (toB e_int)) (ss_one (s_ret (n_box (n_lst (a_cons (e_bi call_abs s_abs fx.f_abs (by kernel_rfl) (ab_cons (b_look (i := 0)) ab_nil)) (a_cons e_int (a_cons e_int a_nil))))))) ss_nil)
    (ss_one (s_ret (n_box (n_lst (a_cons (e_var (i := 0)) (a_cons (e_binB op_addAll (s_add hK) (toB e_int) (toB (e_binB op_modN s_mod (toB (e_biT call_intAll s_int fx.f_int (by kernel_rfl) (ab_cons (b_look (i := 0)) ab_nil))) (toB e_int)))) (a_cons (e_biT call_intAll s_int fx.f_int (by kernel_rfl) (ab_cons (toB (e_cmp o_ge (s_cmp _ _) (b_look (i := 0)) (toB (e_binB op_pow s_pow (toB e_int) (toB e_int))))) ab_nil)) a_nil))))))))
/-! _law_roll -/
def b__law_roll (again : FM) : SM :=
  (sSeq (sIf (tOrM (tB1 (eBin opEq (eBin opIx (eLook 0) (eC (.int 2))) (eC (.int 2)))) (tAndM (tB1 (eBin opEq (eBin opIx (eLook 0) (eC (.int 2))) (eC (.int 1)))) (tB1 (eBin opGt (eBin opIx (eLook 0) (eC (.int 0))) (eC (.int 0)))))) (sSeq (sSet 2 (eBin opMod (eBi bInt (aCons (eBin opIx (eLook 0) (eC (.int 0))) aNil)) (eLook 1)))
    (sSeq (sPut 0 (eC (.int 0)) (eBin opDiv (eBin opIx (eLook 0) (eC (.int 0))) (eLook 1)))
    (sRet (eVar 2)))) sNx)
    (sSeq (sPut 0 (eC (.int 2)) (eC (.int 0)))
    (sSeq (sIf (tB1 (eBin opGt (eLook 1) (eC (.int 100000000)))) (sRet (eBin opMod (eBi bInt (aCons (eBin opAdd (eBin opMul (eCall 2 again (aCons (eVar 0) (aCons (eBin opAdd (eBin opDiv (eLook 1) (eC (.int 100000000))) (eC (.int 1))) aNil))) (eC (.int 100000000))) (eCall 2 again (aCons (eVar 0) (aCons (eC (.int 100000000)) aNil)))) aNil)) (eLook 1))) sNx)
    (sSeq (sPut 0 (eC (.int 0)) (eBin opMod (eBi bInt (aCons (eBin opAdd (eBin opAdd (eBin opMul (eBin opIx (eLook 0) (eC (.int 0))) (eC (.int 48271))) (eBin opMul (eBin opIx (eLook 0) (eC (.int 1))) (eC (.int 69621)))) (eC (.int 11))) aNil)) (eC (.int 2147483647))))
    (sSeq (sPut 0 (eC (.int 1)) (eBin opAdd (eBin opIx (eLook 0) (eC (.int 1))) (eC (.int 1))))
    (sRet (eBin opMod (eBi bInt (aCons (eBin opDiv (eBin opIx (eLook 0) (eC (.int 0))) (eC (.int 7))) aNil)) (eLook 1))))))))
def n__law_roll : Nat → FM
  | 0 => mBad
  | d + 1 => mkF 3 (b__law_roll (n__law_roll d))
def m__law_roll : FM := n__law_roll 1
theorem sc__law_roll : FnScope ["dice", "many", "found"] ["dice", "many"] (defScope (top 21)) := ⟨rfl, rfl, rfl, by decide +kernel, rfl, by decide +kernel, by decide +kernel⟩
theorem zn__law_roll (fx : Fx P w K mg base G) : ∀ d, FnZ P w K mg base G (0 + 1 + d) "_law_roll" 2 (n__law_roll d)
  | 0 => by
    obtain ⟨f, fd, F, gm⟩ := fx.d__law_roll
    exact (fn_never F sc__law_roll gm rfl (fun _ _ _ _ _ _ us hl => match us, hl with | [_, _], _ => rfl)).up (Nat.zero_le _)
  | d + 1 => by
    have ih := zn__law_roll fx d
    obtain ⟨f, fd, F, gm⟩ := fx.d__law_roll
    have hK := fx.hK
    refine ⟨⟨f, fd, _, rfl, fn_ok (k := 0 + 1 + d) F sc__law_roll (fun W c A outer s H E hcode hr0 => ?_), gm, F.kp, F.bindsN fun _ _ _ _ _ _ us hl => match us, hl with | [_, _], _ => rfl⟩⟩
    have hN : List.Nodup (["dice", "many", "found"] : List Str) := by decide +kernel
    have hr := hr0
    exact (ss_cons (s_if (PW.pt (w_or (t_cmp (oEq hr) (s_eq hK) (toB (e_ix hK (b_look (i := 0)) e_int)) (toB e_int)) (w_or1 (PW.pt (w_and (t_cmp (oEq hr) (s_eq hK) (toB (e_ix hK (b_look (i := 0)) e_int)) (toB e_int)) (w_and1 (t_cmp o_gt (s_cmp _ _) (toB (e_ix hK (b_look (i := 0)) e_int)) (toB e_int)))))))) (ss_cons (s_set (i := 2) hN (e_binB op_modN s_mod (toB (e_biT call_intAll s_int fx.f_int (by kernel_rfl) (ab_cons (toB (e_ix hK (b_look (i := 0)) e_int)) ab_nil))) (b_look (i := 1))))
    (ss_cons (s_put (i := 0) e_int (e_binB op_fdivN s_div (toB (e_ix hK (b_look (i := 0)) e_int)) (b_look (i := 1))))
    (ss_one (s_ret (e_var (i := 2)))))) ss_nil)
    (ss_cons (s_put (i := 0) e_int e_int)
    (ss_cons (s_if (t_cmp o_gt (s_cmp _ _) (b_look (i := 1)) (toB e_int)) (ss_one (s_ret (e_binB op_modN s_mod (toB (e_biT call_intAll s_int fx.f_int (by kernel_rfl) (ab_cons (toB (e_binB op_addAll (s_add hK) (toB (e_binB op_mulAll s_mul (toB (e_call ih hr takes_fn (a_cons (e_var (i := 0)) (a_cons (e_binB op_addAll (s_add hK) (toB (e_binB op_fdivN s_div (b_look (i := 1)) (toB e_int))) (toB e_int)) a_nil)) (hk := by omega))) (toB e_int))) (toB (e_call ih hr takes_fn (a_cons (e_var (i := 0)) (a_cons e_int a_nil)) (hk := by omega))))) ab_nil))) (b_look (i := 1))))) ss_nil)
    (ss_cons (s_put (i := 0) e_int (e_binB op_modN s_mod (toB (e_biT call_intAll s_int fx.f_int (by kernel_rfl) (ab_cons (toB (e_binB op_addAll (s_add hK) (toB (e_binB op_addAll (s_add hK) (toB (e_binB op_mulAll s_mul (toB (e_ix hK (b_look (i := 0)) e_int)) (toB e_int))) (toB (e_binB op_mulAll s_mul (toB (e_ix hK (b_look (i := 0)) e_int)) (toB e_int))))) (toB e_int))) ab_nil))) (toB e_int)))
    (ss_cons (s_put (i := 0) e_int (e_binB op_addAll (s_add hK) (toB (e_ix hK (b_look (i := 0)) e_int)) (toB e_int)))
    (ss_one (s_ret (e_binB op_modN s_mod (toB (e_biT call_intAll s_int fx.f_int (by kernel_rfl) (ab_cons (toB (e_binB op_fdivN s_div (toB (e_ix hK (b_look (i := 0)) e_int)) (toB e_int))) ab_nil))) (b_look (i := 1))))))))))
theorem z__law_roll (fx : Fx P w K mg base G) : FnZ P w K mg base G 2 "_law_roll" 2 m__law_roll := zn__law_roll fx 1
/-! _law_rounds -/
def b__law_rounds : SM :=
  (sSeq (sSet 2 (eSl (eLook 0) pNo (pAt (eVar 1))))
    (sSeq (sIf (tB1 (eBin opEq (eLook 2) (eLst aNil))) (sSet 2 (eLst (aCons (eC (.int 0)) aNil))) sNx)
    (sRet (eLc (.n 3) [3] (iOf (eVar 2)) tYesM (eCall 1 m__law_dice (aCons (eVar 3) aNil))))))
def m__law_rounds : FM := mkF 4 b__law_rounds
theorem sc__law_rounds : FnScope ["script", "most", "cells", "cell"] ["script", "most"] (defScope (top 22)) := ⟨rfl, rfl, rfl, by decide +kernel, rfl, by decide +kernel, by decide +kernel⟩
theorem z__law_rounds (fx : Fx P w K mg base G) : FnZ P w K mg base G 2 "_law_rounds" 2 m__law_rounds := by
  obtain ⟨f, fd, F, gm⟩ := fx.d__law_rounds
  have hK := fx.hK
  refine ⟨⟨f, fd, _, rfl, fn_ok (k := 1) F sc__law_rounds (fun W c A outer s H E hcode hr => ?_), gm, F.kp, F.bindsN fun _ _ _ _ _ _ us hl => match us, hl with | [_, _], _ => rfl⟩⟩
  have hN : List.Nodup (["script", "most", "cells", "cell"] : List Str) := by decide +kernel
  exact (ss_cons (s_set (i := 2) hN (e_sl hK (b_look (i := 0)) p_no (p_at (e_var (i := 1)))))
    (ss_cons (s_if (t_cmp (oEq hr) (s_eq hK) (b_look (i := 2)) (toB (n_e (n_lst a_nil)))) (ss_one (s_set (i := 2) hN (n_e (n_lst (a_cons e_int a_nil))))) ss_nil)
    (ss_one (s_ret (n_e (n_lc [("cell", 3)] rfl hN (i_of hK (e_var (i := 2))) (blkOk_by (by kernel_rfl)) (fun _ _ _ _ _ => (g_name hN)) (fun _ _ _ _ _ => t_yes) (fun _ _ _ _ _ => (e_call (z__law_dice fx) hr takes0 (a_cons (e_var (i := 3)) a_nil) (hk := by omega)))))))))

/-! _law_text -/
def b__law_text : SM :=
  (sSeq (sSet 3 (eC (.str [])))
    (sSeq (sFor (.n 4) (iR1 (aCons (eCall 2 m__law_roll (aCons (eVar 0) (aCons (eVar 2) aNil))) aNil)) (sSet 3 (eBin opAdd (eLook 3) (eBin opMul (eBin opIx (eLook 1) (eCall 2 m__law_roll (aCons (eVar 0) (aCons (eBi bLen (aCons (eLook 1) aNil)) aNil)))) (eBin opAdd (eC (.int 1)) (eBin opMul (eCall 2 m__law_roll (aCons (eVar 0) (aCons (eC (.int 4)) aNil))) (eBi bInt (aCons (eBin opEq (eCall 2 m__law_roll (aCons (eVar 0) (aCons (eC (.int 3)) aNil))) (eC (.int 0))) aNil))))))))
    (sRet (eVar 3))))
def m__law_text : FM := mkF 5 b__law_text
theorem sc__law_text : FnScope ["dice", "signs", "most", "found", "k"] ["dice", "signs", "most"] (defScope (top 24)) := ⟨rfl, rfl, rfl, by decide +kernel, rfl, by decide +kernel, by decide +kernel⟩
theorem z__law_text (fx : Fx P w K mg base G) : FnZ P w K mg base G 3 "_law_text" 3 m__law_text := by
  obtain ⟨f, fd, F, gm⟩ := fx.d__law_text
  have hK := fx.hK
  refine ⟨⟨f, fd, _, rfl, fn_ok (k := 2) F sc__law_text (fun W c A outer s H E hcode hr => ?_), gm, F.kp, F.bindsN fun _ _ _ _ _ _ us hl => match us, hl with | [_, _, _], _ => rfl⟩⟩
  have hN : List.Nodup (["dice", "signs", "most", "found", "k"] : List Str) := by decide +kernel
  exact (ss_cons (s_set (i := 3) hN (e_str (l := [])))
    (ss_cons (s_for owns_fn rfl (g_name hN) (i_r1 fx.f_range (a_cons (e_call (z__law_roll fx) hr takes_fn (a_cons (e_var (i := 0)) (a_cons (e_var (i := 2)) a_nil)) (hk := by omega)) a_nil)) (ss_one (s_set (i := 3) hN (e_binB op_addAll (s_add hK) (b_look (i := 3)) (toB (e_binB op_mulAll s_mul (toB (e_ix hK (b_look (i := 1)) (e_call (z__law_roll fx) hr takes_fn (a_cons (e_var (i := 0)) (a_cons (e_bi call_len (s_len hK) fx.f_len (by kernel_rfl) (ab_cons (b_look (i := 1)) ab_nil)) a_nil)) (hk := by omega)))) (toB (e_binB op_addAll (s_add hK) (toB e_int) (toB (e_binB op_mulAll s_mul (toB (e_call (z__law_roll fx) hr takes_fn (a_cons (e_var (i := 0)) (a_cons e_int a_nil)) (hk := by omega))) (toB (e_biT call_intAll s_int fx.f_int (by kernel_rfl) (ab_cons (toB (e_cmp (oEq hr) (s_eq hK) (toB (e_call (z__law_roll fx) hr takes_fn (a_cons (e_var (i := 0)) (a_cons e_int a_nil)) (hk := by omega))) (toB e_int))) ab_nil)))))))))))))
    (ss_one (s_ret (e_var (i := 3))))))
/-! _law_runs -/
def b__law_runs : SM :=
  (sSeq (sSet 1 (eLst aNil))
    (sSeq (sFor (.n 2) (iOf (eVar 0)) (sSet 1 (eIf (tAndM (tB1 (eBin opNe (eLook 1) (eLst aNil))) (tB1 (eBin opEq (eBin opIx (eBin opIx (eLook 1) (eNeg (eC (.int 1)))) (eC (.int 0))) (eLook 2)))) (eBin opAdd (eSl (eLook 1) pNo (pAt (eNeg (eC (.int 1))))) (eLst (aCons (eTup (aCons (eVar 2) (aCons (eBin opAdd (eBin opIx (eBin opIx (eLook 1) (eNeg (eC (.int 1)))) (eC (.int 1))) (eC (.int 1))) aNil))) aNil))) (eBin opAdd (eLook 1) (eLst (aCons (eTup (aCons (eVar 2) (aCons (eC (.int 1)) aNil))) aNil))))))
    (sRet (eVar 1))))
def m__law_runs : FM := mkF 3 b__law_runs
theorem sc__law_runs : FnScope ["text", "found", "sign"] ["text"] (defScope (top 25)) := ⟨rfl, rfl, rfl, by decide +kernel, rfl, by decide +kernel, by decide +kernel⟩
theorem z__law_runs (fx : Fx P w K mg base G) : FnZ P w K mg base G 1 "_law_runs" 1 m__law_runs := by
  obtain ⟨f, fd, F, gm⟩ := fx.d__law_runs
  have hK := fx.hK
  refine ⟨⟨f, fd, _, rfl, fn_ok (k := 0) F sc__law_runs (fun W c A outer s H E hcode hr => ?_), gm, F.kp, F.bindsN fun _ _ _ _ _ _ us hl => match us, hl with | [_], _ => rfl⟩⟩
  have hN : List.Nodup (["text", "found", "sign"] : List Str) := by decide +kernel
  exact (ss_cons (s_set (i := 1) hN (n_e (n_lst a_nil)))
    (ss_cons (s_for owns_fn rfl (g_name hN) (i_of hK (e_var (i := 0))) (ss_one (s_set (i := 1) hN (e_if (PW.pt (w_and (t_cmp (oNe hr) (s_ne hK) (b_look (i := 1)) (toB (n_e (n_lst a_nil)))) (w_and1 (t_cmp (oEq hr) (s_eq hK) (toB (e_ix hK (toB (e_ix hK (b_look (i := 1)) (e_neg e_int))) e_int)) (b_look (i := 2)))))) (e_binB op_addAll (s_add hK) (toB (e_sl hK (b_look (i := 1)) p_no (p_at (e_neg e_int)))) (toB (n_e (n_lst (a_cons (e_tup (a_cons (e_var (i := 2)) (a_cons (e_binB op_addAll (s_add hK) (toB (e_ix hK (toB (e_ix hK (b_look (i := 1)) (e_neg e_int))) e_int)) (toB e_int)) a_nil))) a_nil))))) (e_binB op_addAll (s_add hK) (b_look (i := 1)) (toB (n_e (n_lst (a_cons (e_tup (a_cons (e_var (i := 2)) (a_cons e_int a_nil))) a_nil)))))))))
    (ss_one (s_ret (e_var (i := 1))))))
/-! _law_read -/
def b__law_read : SM :=
  (sSeq (sTg (.t [(.n 1), (.n 2)]) (eTup (aCons (eC (.str [])) (aCons (eC (.str [])) aNil))))
    (sSeq (sFor (.n 3) (iOf (eVar 0)) (sIf (tB1 (eBin opIn (eLook 3) (eC (.str [48, 49, 50, 51, 52, 53, 54, 55, 56, 57])))) (sSeq (sSet 2 (eBin opAdd (eLook 2) (eLook 3)))
    (sIf (tOrM (tB1 (eBin opGt (eBi bLen (aCons (eLook 2) aNil)) (eC (.int 3)))) (tB1 (eBin opEq (eBin opIx (eLook 2) (eC (.int 0))) (eC (.str [48]))))) (sRet (eC .non)) sNx)) (sSeq (sIf (tB1 (eBin opEq (eLook 2) (eC (.str [49])))) (sRet (eC .non)) sNx)
    (sPar 1 2 (vE (eBin opAdd (eLook 1) (eBin opMul (eLook 3) (eIf (tB1 (eBin opNe (eLook 2) (eC (.str [])))) (eBi bInt (aCons (eLook 2) aNil)) (eC (.int 1)))))) (vE (eC (.str [])))))))
    (sRet (eIf (tOrM (tB1 (eBin opNe (eLook 2) (eC (.str [])))) (tB1 (eBin opGt (eBi bLen (aCons (eLook 1) aNil)) (eC (.int 400))))) (eC .non) (eVar 1)))))
def m__law_read : FM := mkF 4 b__law_read
theorem sc__law_read : FnScope ["told", "found", "number", "sign"] ["told"] (defScope (top 26)) := ⟨rfl, rfl, rfl, by decide +kernel, rfl, by decide +kernel, by decide +kernel⟩
theorem z__law_read (fx : Fx P w K mg base G) : FnZ P w K mg base G 1 "_law_read" 1 m__law_read := by
  obtain ⟨f, fd, F, gm⟩ := fx.d__law_read
  have hK := fx.hK
  refine ⟨⟨f, fd, _, rfl, fn_ok (k := 0) F sc__law_read (fun W c A outer s H E hcode hr => ?_), gm, F.kp, F.bindsN fun _ _ _ _ _ _ us hl => match us, hl with | [_], _ => rfl⟩⟩
  have hN : List.Nodup (["told", "found", "number", "sign"] : List Str) := by decide +kernel
  exact (ss_cons (s_tg (e_tup (a_cons (e_str (l := [])) (a_cons (e_str (l := [])) a_nil))) (g_tup hK rfl (gs_cons (g_name hN) (gs_cons (g_name hN) gs_nil))))
    (ss_cons (s_for owns_fn rfl (g_name hN) (i_of hK (e_var (i := 0))) (ss_one (s_if (t_cmp (oIn hr) (s_in hK) (b_look (i := 3)) (toB (e_str (l := [48, 49, 50, 51, 52, 53, 54, 55, 56, 57])))) (ss_cons (s_set (i := 2) hN (e_binB op_addAll (s_add hK) (b_look (i := 2)) (b_look (i := 3))))
    (ss_one (s_if (PW.pt (w_or (t_cmp o_gt (s_cmp _ _) (toB (e_bi call_len (s_len hK) fx.f_len (by kernel_rfl) (ab_cons (b_look (i := 2)) ab_nil))) (toB e_int)) (w_or1 (t_cmp (oEq hr) (s_eq hK) (toB (e_ix hK (b_look (i := 2)) e_int)) (toB (e_str (l := [48]))))))) (ss_one (s_ret e_non)) ss_nil))) (ss_cons (s_if (t_cmp (oEq hr) (s_eq hK) (b_look (i := 2)) (toB (e_str (l := [49])))) (ss_one (s_ret e_non)) ss_nil)
    (ss_one (s_par (i := 1) (j := 2) rfl hN (v_e (e_binB op_addAll (s_add hK) (b_look (i := 1)) (toB (e_binB op_mulAll s_mul (b_look (i := 3)) (toB (e_if (t_cmp (oNe hr) (s_ne hK) (b_look (i := 2)) (toB (e_str (l := [])))) (e_biT call_intAll s_int fx.f_int (by kernel_rfl) (ab_cons (b_look (i := 2)) ab_nil)) e_int)))))) (v_e (e_str (l := [])))))))))
    (ss_one (s_ret (e_if (PW.pt (w_or (t_cmp (oNe hr) (s_ne hK) (b_look (i := 2)) (toB (e_str (l := [])))) (w_or1 (t_cmp o_gt (s_cmp _ _) (toB (e_bi call_len (s_len hK) fx.f_len (by kernel_rfl) (ab_cons (b_look (i := 1)) ab_nil))) (toB e_int))))) e_non (e_var (i := 1)))))))
/-! _law_cut -/
def b__law_cut : SM :=
  (sRet (eLc (.n 2) [2] (iR3 (aCons (eC (.int 0)) (aCons (eBi bLen (aCons (eLook 0) aNil)) (aCons (eVar 1) aNil)))) tYesM (eTup (aCons (eC (.str [111, 116, 104, 101, 114])) (aCons (eSl (eLook 0) (pAt (eVar 2)) (pAt (eBin opAdd (eLook 2) (eLook 1)))) aNil)))))
def m__law_cut : FM := mkF 3 b__law_cut
theorem sc__law_cut : FnScope ["held", "most", "k"] ["held", "most"] (defScope (top 27)) := ⟨rfl, rfl, rfl, by decide +kernel, rfl, by decide +kernel, by decide +kernel⟩
theorem z__law_cut (fx : Fx P w K mg base G) : FnZ P w K mg base G 1 "_law_cut" 2 m__law_cut := by
  obtain ⟨f, fd, F, gm⟩ := fx.d__law_cut
  have hK := fx.hK
  refine ⟨⟨f, fd, _, rfl, fn_ok (k := 0) F sc__law_cut (fun W c A outer s H E hcode hr => ?_), gm, F.kp, F.bindsN fun _ _ _ _ _ _ us hl => match us, hl with | [_, _], _ => rfl⟩⟩
  have hN : List.Nodup (["held", "most", "k"] : List Str) := by decide +kernel
  exact (ss_one (s_ret (n_e (n_lc [("k", 2)] rfl hN (i_r3 fx.f_range (a_cons e_int (a_cons (e_bi call_len (s_len hK) fx.f_len (by kernel_rfl) (ab_cons (b_look (i := 0)) ab_nil)) (a_cons (e_var (i := 1)) a_nil)))) (blkOk_by (by kernel_rfl)) (fun _ _ _ _ _ => (g_name hN)) (fun _ _ _ _ _ => t_yes) (fun _ _ _ _ _ => (e_tup (a_cons (e_str (l := [111, 116, 104, 101, 114])) (a_cons (e_sl hK (b_look (i := 0)) (p_at (e_var (i := 2))) (p_at (e_binB op_addAll (s_add hK) (b_look (i := 2)) (b_look (i := 1))))) a_nil))))))))
/-! _law_packs -/
def b__law_packs : SM :=
  (sSeq (sPar 3 4 (vE (eLst aNil)) (vE (eC (.str []))))
    (sSeq (sFor (.t [(.n 5), (.n 6)]) (iOf (eCall 1 m__law_runs (aCons (eVar 0) aNil))) (sSeq (sWhile 1000000 (tB1 (eBin opGe (eLook 6) (eLook 1))) (sSeq (sPar 3 4 (vE (eBin opAdd (eBin opAdd (eLook 3) (eCall 2 m__law_cut (aCons (eVar 4) (aCons (eVar 2) aNil)))) (eLst (aCons (eTup (aCons (eC (.str [115, 97, 109, 101])) (aCons (eVar 5) (aCons (eBi bMin2 (aCons (eLook 6) (aCons (eLook 2) aNil))) aNil)))) aNil)))) (vE (eC (.str []))))
    (sSet 6 (eBin opSub (eLook 6) (eBi bMin2 (aCons (eLook 6) (aCons (eLook 2) aNil)))))))
    (sSet 4 (eBin opAdd (eLook 4) (eBin opMul (eLook 5) (eLook 6))))))
    (sRet (eBin opAdd (eLook 3) (eCall 2 m__law_cut (aCons (eVar 4) (aCons (eVar 2) aNil)))))))
def m__law_packs : FM := mkF 7 b__law_packs
theorem sc__law_packs : FnScope ["text", "least", "most", "found", "held", "sign", "many"] ["text", "least", "most"] (defScope (top 28)) := ⟨rfl, rfl, rfl, by decide +kernel, rfl, by decide +kernel, by decide +kernel⟩
theorem z__law_packs (fx : Fx P w K mg base G) : FnZ P w K mg base G 2 "_law_packs" 3 m__law_packs := by
  obtain ⟨f, fd, F, gm⟩ := fx.d__law_packs
  have hK := fx.hK
  refine ⟨⟨f, fd, _, rfl, fn_ok (k := 1) F sc__law_packs (fun W c A outer s H E hcode hr => ?_), gm, F.kp, F.bindsN fun _ _ _ _ _ _ us hl => match us, hl with | [_, _, _], _ => rfl⟩⟩
  have hN : List.Nodup (["text", "least", "most", "found", "held", "sign", "many"] : List Str) := by decide +kernel
  exact (ss_cons (s_par (i := 3) (j := 4) rfl hN (v_e (n_e (n_lst a_nil))) (v_e (e_str (l := []))))
    (ss_cons (s_for owns_fn rfl (g_tup hK rfl (gs_cons (g_name hN) (gs_cons (g_name hN) gs_nil))) (i_of hK (e_call (z__law_runs fx) hr takes_fn (a_cons (e_var (i := 0)) a_nil) (hk := by omega))) (ss_cons (s_while owns_fn (t_cmp o_ge (s_cmp _ _) (b_look (i := 6)) (b_look (i := 1))) (ss_cons (s_par (i := 3) (j := 4) rfl hN (v_e (e_binB op_addAll (s_add hK) (toB (e_binB op_addAll (s_add hK) (b_look (i := 3)) (toB (e_call (z__law_cut fx) hr takes_fn (a_cons (e_var (i := 4)) (a_cons (e_var (i := 2)) a_nil)) (hk := by omega))))) (toB (n_e (n_lst (a_cons (e_tup (a_cons (e_str (l := [115, 97, 109, 101])) (a_cons (e_var (i := 5)) (a_cons (e_bi (call_min2 rfl) s_min2 fx.f_min (by kernel_rfl) (ab_cons (b_look (i := 6)) (ab_cons (b_look (i := 2)) ab_nil))) a_nil)))) a_nil)))))) (v_e (e_str (l := []))))
    (ss_one (s_set (i := 6) hN (e_binB op_sub s_sub (b_look (i := 6)) (toB (e_bi (call_min2 rfl) s_min2 fx.f_min (by kernel_rfl) (ab_cons (b_look (i := 6)) (ab_cons (b_look (i := 2)) ab_nil)))))))))
    (ss_one (s_set (i := 4) hN (e_binB op_addAll (s_add hK) (b_look (i := 4)) (toB (e_binB op_mulAll s_mul (b_look (i := 5)) (b_look (i := 6)))))))))
    (ss_one (s_ret (e_binB op_addAll (s_add hK) (b_look (i := 3)) (toB (e_call (z__law_cut fx) hr takes_fn (a_cons (e_var (i := 4)) (a_cons (e_var (i := 2)) a_nil)) (hk := by omega))))))))
/-! _law_plain -/
def lm_0 (h : Hc) : R D := (eCall 1 m_told_runs (aCons (eC (.str [97, 49])) aNil)) [] h
theorem lz_0 (fx : Fx P w K mg base G) : LamZ P w K mg base G 12 0 lm_0 := by
  refine ⟨fun params body scope q hl => ?_⟩
  rw [show G.lam 0 = lamTab 0 from congrFun fx.lam 0] at hl
  obtain ⟨rfl, rfl, rfl, rfl⟩ := lamTab_in hl
  refine ⟨⟨rfl, rfl, rfl, by decide +kernel, rfl, by decide +kernel, by decide +kernel⟩, fun _ _ _ _ _ => rfl, fun W f c A outer s H E hr => ?_⟩
  exact (e_call (z_told_runs fx) hr takes_fn (a_cons (e_str (l := [97, 49])) a_nil) (hk := by omega))
def lm_1 (h : Hc) : R D := (eCall 1 m_from_runs (aCons (eTup (aCons (eTup (aCons (eC (.str [97])) (aCons (eC (.int 401)) aNil))) aNil)) aNil)) [] h
theorem lz_1 (fx : Fx P w K mg base G) : LamZ P w K mg base G 12 1 lm_1 := by
  refine ⟨fun params body scope q hl => ?_⟩
  rw [show G.lam 1 = lamTab 1 from congrFun fx.lam 1] at hl
  obtain ⟨rfl, rfl, rfl, rfl⟩ := lamTab_in hl
  refine ⟨⟨rfl, rfl, rfl, by decide +kernel, rfl, by decide +kernel, by decide +kernel⟩, fun _ _ _ _ _ => rfl, fun W f c A outer s H E hr => ?_⟩
  exact (e_call (z_from_runs fx) hr takes_fn (a_cons (e_tup (a_cons (e_tup (a_cons (e_str (l := [97])) (a_cons e_int a_nil))) a_nil)) a_nil) (hk := by omega))
def lm_2 (h : Hc) : R D := (eCall 1 m_from_runs (aCons (eTup (aCons (eTup (aCons (eC (.str [97])) (aCons (eC (.int 0)) aNil))) aNil)) aNil)) [] h
theorem lz_2 (fx : Fx P w K mg base G) : LamZ P w K mg base G 12 2 lm_2 := by
  refine ⟨fun params body scope q hl => ?_⟩
  rw [show G.lam 2 = lamTab 2 from congrFun fx.lam 2] at hl
  obtain ⟨rfl, rfl, rfl, rfl⟩ := lamTab_in hl
  refine ⟨⟨rfl, rfl, rfl, by decide +kernel, rfl, by decide +kernel, by decide +kernel⟩, fun _ _ _ _ _ => rfl, fun W f c A outer s H E hr => ?_⟩
  exact (e_call (z_from_runs fx) hr takes_fn (a_cons (e_tup (a_cons (e_tup (a_cons (e_str (l := [97])) (a_cons e_int a_nil))) a_nil)) a_nil) (hk := by omega))
def lm_3 (h : Hc) : R D := (eCall 1 m_from_runs (aCons (eTup (aCons (eTup (aCons (eC (.str [97, 98])) (aCons (eC (.int 1)) aNil))) aNil)) aNil)) [] h
theorem lz_3 (fx : Fx P w K mg base G) : LamZ P w K mg base G 12 3 lm_3 := by
  refine ⟨fun params body scope q hl => ?_⟩
  rw [show G.lam 3 = lamTab 3 from congrFun fx.lam 3] at hl
  obtain ⟨rfl, rfl, rfl, rfl⟩ := lamTab_in hl
  refine ⟨⟨rfl, rfl, rfl, by decide +kernel, rfl, by decide +kernel, by decide +kernel⟩, fun _ _ _ _ _ => rfl, fun W f c A outer s H E hr => ?_⟩
  exact (e_call (z_from_runs fx) hr takes_fn (a_cons (e_tup (a_cons (e_tup (a_cons (e_str (l := [97, 98])) (a_cons e_int a_nil))) a_nil)) a_nil) (hk := by omega))
def lm_4 (h : Hc) : R D := (eCall 1 m_check_text (aCons (eBin opMul (eC (.str [97])) (eC (.int 401))) aNil)) [] h
theorem lz_4 (fx : Fx P w K mg base G) : LamZ P w K mg base G 12 4 lm_4 := by
  refine ⟨fun params body scope q hl => ?_⟩
  rw [show G.lam 4 = lamTab 4 from congrFun fx.lam 4] at hl
  obtain ⟨rfl, rfl, rfl, rfl⟩ := lamTab_in hl
  refine ⟨⟨rfl, rfl, rfl, by decide +kernel, rfl, by decide +kernel, by decide +kernel⟩, fun _ _ _ _ _ => rfl, fun W f c A outer s H E hr => ?_⟩
  exact (e_call (z_check_text fx) hr takes_fn (a_cons (e_binB op_mulAll s_mul (toB (e_str (l := [97]))) (toB e_int)) a_nil) (hk := by omega))
def lm_5 (h : Hc) : R D := (eCall 3 m_packs (aCons (eC (.str [97])) (aCons (eC (.int 1)) (aCons (eC (.int 5)) aNil)))) [] h
theorem lz_5 (fx : Fx P w K mg base G) : LamZ P w K mg base G 12 5 lm_5 := by
  refine ⟨fun params body scope q hl => ?_⟩
  rw [show G.lam 5 = lamTab 5 from congrFun fx.lam 5] at hl
  obtain ⟨rfl, rfl, rfl, rfl⟩ := lamTab_in hl
  refine ⟨⟨rfl, rfl, rfl, by decide +kernel, rfl, by decide +kernel, by decide +kernel⟩, fun _ _ _ _ _ => rfl, fun W f c A outer s H E hr => ?_⟩
  exact (e_call (z_packs fx) hr takes_fn (a_cons (e_str (l := [97])) (a_cons e_int (a_cons e_int a_nil))) (hk := by omega))
def lm_6 (h : Hc) : R D := (eCall 1 m_read_runs (aCons (eC (.str [52, 48, 49, 97])) aNil)) [] h
theorem lz_6 (fx : Fx P w K mg base G) : LamZ P w K mg base G 12 6 lm_6 := by
  refine ⟨fun params body scope q hl => ?_⟩
  rw [show G.lam 6 = lamTab 6 from congrFun fx.lam 6] at hl
  obtain ⟨rfl, rfl, rfl, rfl⟩ := lamTab_in hl
  refine ⟨⟨rfl, rfl, rfl, by decide +kernel, rfl, by decide +kernel, by decide +kernel⟩, fun _ _ _ _ _ => rfl, fun W f c A outer s H E hr => ?_⟩
  exact (e_call (z_read_runs fx) hr takes_fn (a_cons (e_str (l := [52, 48, 49, 97])) a_nil) (hk := by omega))
def lm_7 (h : Hc) : R D := (eCall 1 m_read_runs (aCons (eC (.str [48, 51, 97])) aNil)) [] h
theorem lz_7 (fx : Fx P w K mg base G) : LamZ P w K mg base G 12 7 lm_7 := by
  refine ⟨fun params body scope q hl => ?_⟩
  rw [show G.lam 7 = lamTab 7 from congrFun fx.lam 7] at hl
  obtain ⟨rfl, rfl, rfl, rfl⟩ := lamTab_in hl
  refine ⟨⟨rfl, rfl, rfl, by decide +kernel, rfl, by decide +kernel, by decide +kernel⟩, fun _ _ _ _ _ => rfl, fun W f c A outer s H E hr => ?_⟩
  exact (e_call (z_read_runs fx) hr takes_fn (a_cons (e_str (l := [48, 51, 97])) a_nil) (hk := by omega))
def lm_8 (h : Hc) : R D := (eCall 1 m_read_runs (aCons (eC (.str [49, 97])) aNil)) [] h
theorem lz_8 (fx : Fx P w K mg base G) : LamZ P w K mg base G 12 8 lm_8 := by
  refine ⟨fun params body scope q hl => ?_⟩
  rw [show G.lam 8 = lamTab 8 from congrFun fx.lam 8] at hl
  obtain ⟨rfl, rfl, rfl, rfl⟩ := lamTab_in hl
  refine ⟨⟨rfl, rfl, rfl, by decide +kernel, rfl, by decide +kernel, by decide +kernel⟩, fun _ _ _ _ _ => rfl, fun W f c A outer s H E hr => ?_⟩
  exact (e_call (z_read_runs fx) hr takes_fn (a_cons (e_str (l := [49, 97])) a_nil) (hk := by omega))
def lm_9 (h : Hc) : R D := (eCall 1 m_read_runs (aCons (eC (.str [51])) aNil)) [] h
theorem lz_9 (fx : Fx P w K mg base G) : LamZ P w K mg base G 12 9 lm_9 := by
  refine ⟨fun params body scope q hl => ?_⟩
  rw [show G.lam 9 = lamTab 9 from congrFun fx.lam 9] at hl
  obtain ⟨rfl, rfl, rfl, rfl⟩ := lamTab_in hl
  refine ⟨⟨rfl, rfl, rfl, by decide +kernel, rfl, by decide +kernel, by decide +kernel⟩, fun _ _ _ _ _ => rfl, fun W f c A outer s H E hr => ?_⟩
  exact (e_call (z_read_runs fx) hr takes_fn (a_cons (e_str (l := [51])) a_nil) (hk := by omega))
def lm_10 (h : Hc) : R D := (eCall 1 m_from_packs (aCons (eTup (aCons (eTup (aCons (eC (.str [115, 97, 109, 101])) (aCons (eC (.str [97])) (aCons (eC (.int 500)) aNil)))) aNil)) aNil)) [] h
theorem lz_10 (fx : Fx P w K mg base G) : LamZ P w K mg base G 12 10 lm_10 := by
  refine ⟨fun params body scope q hl => ?_⟩
  rw [show G.lam 10 = lamTab 10 from congrFun fx.lam 10] at hl
  obtain ⟨rfl, rfl, rfl, rfl⟩ := lamTab_in hl
  refine ⟨⟨rfl, rfl, rfl, by decide +kernel, rfl, by decide +kernel, by decide +kernel⟩, fun _ _ _ _ _ => rfl, fun W f c A outer s H E hr => ?_⟩
  exact (e_call (z_from_packs fx) hr takes_fn (a_cons (e_tup (a_cons (e_tup (a_cons (e_str (l := [115, 97, 109, 101])) (a_cons (e_str (l := [97])) (a_cons e_int a_nil)))) a_nil)) a_nil) (hk := by omega))
def lm_11 (h : Hc) : R D := (eCall 1 m_from_packs (aCons (eTup (aCons (eTup (aCons (eC (.str [111, 116, 104, 101, 114])) (aCons (eC (.str [])) aNil))) aNil)) aNil)) [] h
theorem lz_11 (fx : Fx P w K mg base G) : LamZ P w K mg base G 12 11 lm_11 := by
  refine ⟨fun params body scope q hl => ?_⟩
  rw [show G.lam 11 = lamTab 11 from congrFun fx.lam 11] at hl
  obtain ⟨rfl, rfl, rfl, rfl⟩ := lamTab_in hl
  refine ⟨⟨rfl, rfl, rfl, by decide +kernel, rfl, by decide +kernel, by decide +kernel⟩, fun _ _ _ _ _ => rfl, fun W f c A outer s H E hr => ?_⟩
  exact (e_call (z_from_packs fx) hr takes_fn (a_cons (e_tup (a_cons (e_tup (a_cons (e_str (l := [111, 116, 104, 101, 114])) (a_cons (e_str (l := [])) a_nil))) a_nil)) a_nil) (hk := by omega))
def lm_12 (h : Hc) : R D := (eCall 1 m_from_packs (aCons (eTup (aCons (eTup (aCons (eC (.str [115, 97, 109, 101])) (aCons (eC (.str [97])) (aCons (eC (.int 0)) aNil)))) aNil)) aNil)) [] h
theorem lz_12 (fx : Fx P w K mg base G) : LamZ P w K mg base G 12 12 lm_12 := by
  refine ⟨fun params body scope q hl => ?_⟩
  rw [show G.lam 12 = lamTab 12 from congrFun fx.lam 12] at hl
  obtain ⟨rfl, rfl, rfl, rfl⟩ := lamTab_in hl
  refine ⟨⟨rfl, rfl, rfl, by decide +kernel, rfl, by decide +kernel, by decide +kernel⟩, fun _ _ _ _ _ => rfl, fun W f c A outer s H E hr => ?_⟩
  exact (e_call (z_from_packs fx) hr takes_fn (a_cons (e_tup (a_cons (e_tup (a_cons (e_str (l := [115, 97, 109, 101])) (a_cons (e_str (l := [97])) (a_cons e_int a_nil)))) a_nil)) a_nil) (hk := by omega))
def lm_13 (h : Hc) : R D := (eCall 1 m_from_packs (aCons (eTup (aCons (eTup (aCons (eC (.str [111, 100, 100])) (aCons (eC (.str [97])) aNil))) aNil)) aNil)) [] h
theorem lz_13 (fx : Fx P w K mg base G) : LamZ P w K mg base G 12 13 lm_13 := by
  refine ⟨fun params body scope q hl => ?_⟩
  rw [show G.lam 13 = lamTab 13 from congrFun fx.lam 13] at hl
  obtain ⟨rfl, rfl, rfl, rfl⟩ := lamTab_in hl
  refine ⟨⟨rfl, rfl, rfl, by decide +kernel, rfl, by decide +kernel, by decide +kernel⟩, fun _ _ _ _ _ => rfl, fun W f c A outer s H E hr => ?_⟩
  exact (e_call (z_from_packs fx) hr takes_fn (a_cons (e_tup (a_cons (e_tup (a_cons (e_str (l := [111, 100, 100])) (a_cons (e_str (l := [97])) a_nil))) a_nil)) a_nil) (hk := by omega))
def lm_14 (h : Hc) : R D := (eCall 3 m_packs (aCons (eC (.str [97])) (aCons (eC (.int 3)) (aCons (eC (.int 2)) aNil)))) [] h
theorem lz_14 (fx : Fx P w K mg base G) : LamZ P w K mg base G 12 14 lm_14 := by
  refine ⟨fun params body scope q hl => ?_⟩
  rw [show G.lam 14 = lamTab 14 from congrFun fx.lam 14] at hl
  obtain ⟨rfl, rfl, rfl, rfl⟩ := lamTab_in hl
  refine ⟨⟨rfl, rfl, rfl, by decide +kernel, rfl, by decide +kernel, by decide +kernel⟩, fun _ _ _ _ _ => rfl, fun W f c A outer s H E hr => ?_⟩
  exact (e_call (z_packs fx) hr takes_fn (a_cons (e_str (l := [97])) (a_cons e_int (a_cons e_int a_nil))) (hk := by omega))
def lm_15 (h : Hc) : R D := (eCall 1 m_from_bit_runs (aCons (eTup (aCons (eNeg (eC (.int 1))) aNil)) aNil)) [] h
theorem lz_15 (fx : Fx P w K mg base G) : LamZ P w K mg base G 12 15 lm_15 := by
  refine ⟨fun params body scope q hl => ?_⟩
  rw [show G.lam 15 = lamTab 15 from congrFun fx.lam 15] at hl
  obtain ⟨rfl, rfl, rfl, rfl⟩ := lamTab_in hl
  refine ⟨⟨rfl, rfl, rfl, by decide +kernel, rfl, by decide +kernel, by decide +kernel⟩, fun _ _ _ _ _ => rfl, fun W f c A outer s H E hr => ?_⟩
  exact (e_call (z_from_bit_runs fx) hr takes_fn (a_cons (e_tup (a_cons (e_neg e_int) a_nil)) a_nil) (hk := by omega))
def lm_16 (h : Hc) : R D := (eCall 1 m_from_bit_runs (aCons (eTup (aCons (eC (.int 1)) (aCons (eC (.int 0)) aNil))) aNil)) [] h
theorem lz_16 (fx : Fx P w K mg base G) : LamZ P w K mg base G 12 16 lm_16 := by
  refine ⟨fun params body scope q hl => ?_⟩
  rw [show G.lam 16 = lamTab 16 from congrFun fx.lam 16] at hl
  obtain ⟨rfl, rfl, rfl, rfl⟩ := lamTab_in hl
  refine ⟨⟨rfl, rfl, rfl, by decide +kernel, rfl, by decide +kernel, by decide +kernel⟩, fun _ _ _ _ _ => rfl, fun W f c A outer s H E hr => ?_⟩
  exact (e_call (z_from_bit_runs fx) hr takes_fn (a_cons (e_tup (a_cons e_int (a_cons e_int a_nil))) a_nil) (hk := by omega))
def lm_17 (h : Hc) : R D := (eCall 1 m_bit_runs (aCons (eC (.str [50])) aNil)) [] h
theorem lz_17 (fx : Fx P w K mg base G) : LamZ P w K mg base G 12 17 lm_17 := by
  refine ⟨fun params body scope q hl => ?_⟩
  rw [show G.lam 17 = lamTab 17 from congrFun fx.lam 17] at hl
  obtain ⟨rfl, rfl, rfl, rfl⟩ := lamTab_in hl
  refine ⟨⟨rfl, rfl, rfl, by decide +kernel, rfl, by decide +kernel, by decide +kernel⟩, fun _ _ _ _ _ => rfl, fun W f c A outer s H E hr => ?_⟩
  exact (e_call (z_bit_runs fx) hr takes_fn (a_cons (e_str (l := [50])) a_nil) (hk := by omega))
def lm_18 (h : Hc) : R D := (eCall 2 m_gaps_of (aCons (eC (.str [97])) (aCons (eC (.str [97, 98])) aNil))) [] h
theorem lz_18 (fx : Fx P w K mg base G) : LamZ P w K mg base G 12 18 lm_18 := by
  refine ⟨fun params body scope q hl => ?_⟩
  rw [show G.lam 18 = lamTab 18 from congrFun fx.lam 18] at hl
  obtain ⟨rfl, rfl, rfl, rfl⟩ := lamTab_in hl
  refine ⟨⟨rfl, rfl, rfl, by decide +kernel, rfl, by decide +kernel, by decide +kernel⟩, fun _ _ _ _ _ => rfl, fun W f c A outer s H E hr => ?_⟩
  exact (e_call (z_gaps_of fx) hr takes_fn (a_cons (e_str (l := [97])) (a_cons (e_str (l := [97, 98])) a_nil)) (hk := by omega))
def lm_19 (h : Hc) : R D := (eCall 1 m_size_of (aCons (eTup (aCons (eTup (aCons (eC (.str [111, 100, 100])) aNil)) aNil)) aNil)) [] h
theorem lz_19 (fx : Fx P w K mg base G) : LamZ P w K mg base G 12 19 lm_19 := by
  refine ⟨fun params body scope q hl => ?_⟩
  rw [show G.lam 19 = lamTab 19 from congrFun fx.lam 19] at hl
  obtain ⟨rfl, rfl, rfl, rfl⟩ := lamTab_in hl
  refine ⟨⟨rfl, rfl, rfl, by decide +kernel, rfl, by decide +kernel, by decide +kernel⟩, fun _ _ _ _ _ => rfl, fun W f c A outer s H E hr => ?_⟩
  exact (e_call (z_size_of fx) hr takes_fn (a_cons (e_tup (a_cons (e_tup (a_cons (e_str (l := [111, 100, 100])) a_nil)) a_nil)) a_nil) (hk := by omega))
def lm_20 (h : Hc) : R D := (eCall 1 m_longest (aCons (eBin opMul (eC (.str [97])) (eC (.int 401))) aNil)) [] h
theorem lz_20 (fx : Fx P w K mg base G) : LamZ P w K mg base G 12 20 lm_20 := by
  refine ⟨fun params body scope q hl => ?_⟩
  rw [show G.lam 20 = lamTab 20 from congrFun fx.lam 20] at hl
  obtain ⟨rfl, rfl, rfl, rfl⟩ := lamTab_in hl
  refine ⟨⟨rfl, rfl, rfl, by decide +kernel, rfl, by decide +kernel, by decide +kernel⟩, fun _ _ _ _ _ => rfl, fun W f c A outer s H E hr => ?_⟩
  exact (e_call (z_longest fx) hr takes_fn (a_cons (e_binB op_mulAll s_mul (toB (e_str (l := [97]))) (toB e_int)) a_nil) (hk := by omega))
def lamM : Nat → Hc → R D := fun i => match i with
  | 0 => lm_0
  | 1 => lm_1
  | 2 => lm_2
  | 3 => lm_3
  | 4 => lm_4
  | 5 => lm_5
  | 6 => lm_6
  | 7 => lm_7
  | 8 => lm_8
  | 9 => lm_9
  | 10 => lm_10
  | 11 => lm_11
  | 12 => lm_12
  | 13 => lm_13
  | 14 => lm_14
  | 15 => lm_15
  | 16 => lm_16
  | 17 => lm_17
  | 18 => lm_18
  | 19 => lm_19
  | 20 => lm_20
  | _ => fun _ => .bad
theorem lz_all (fx : Fx P w K mg base G) : ∀ i, LamZ P w K mg base G 12 i (lamM i) := fun i => match i with
  | 0 => lz_0 fx
  | 1 => lz_1 fx
  | 2 => lz_2 fx
  | 3 => lz_3 fx
  | 4 => lz_4 fx
  | 5 => lz_5 fx
  | 6 => lz_6 fx
  | 7 => lz_7 fx
  | 8 => lz_8 fx
  | 9 => lz_9 fx
  | 10 => lz_10 fx
  | 11 => lz_11 fx
  | 12 => lz_12 fx
  | 13 => lz_13 fx
  | 14 => lz_14 fx
  | 15 => lz_15 fx
  | 16 => lz_16 fx
  | 17 => lz_17 fx
  | 18 => lz_18 fx
  | 19 => lz_19 fx
  | 20 => lz_20 fx
  | n + 21 => ⟨fun _ _ _ _ hl => by
    rw [show G.lam (n + 21) = lamTab (n + 21) from congrFun fx.lam _] at hl
    cases hl⟩
def b__law_plain : SM :=
  (sSeq (sSet 0 (eLst (aCons (eCall 1 m_check_text (aCons (eC (.str [97])) aNil)) (aCons (eCall 1 m_runs (aCons (eC (.str [97, 97, 98])) aNil)) (aCons (eCall 1 m_runs (aCons (eC (.str [])) aNil)) (aCons (eCall 1 m_from_runs (aCons (eTup (aCons (eTup (aCons (eC (.str [97])) (aCons (eC (.int 2)) aNil))) (aCons (eTup (aCons (eC (.str [97])) (aCons (eC (.int 1)) aNil))) aNil))) aNil)) (aCons (eCall 1 m_told_runs (aCons (eC (.str [97, 97, 97, 98])) aNil)) (aCons (eCall 1 m_told_runs (aCons (eC (.str [])) aNil)) (aCons (eCall 1 m_read_runs (aCons (eC (.str [49, 50, 97, 98])) aNil)) (aCons (eCall 1 m_read_runs (aCons (eC (.str [])) aNil)) aNil))))))))))
    (sSeq (sSet 0 (eBin opAdd (eLook 0) (eLst (aCons (eCall 3 m_packs (aCons (eC (.str [97, 97, 97, 97, 98, 99, 98, 99, 100, 100, 100, 100, 100, 100, 100])) (aCons (eC (.int 3)) (aCons (eC (.int 5)) aNil)))) (aCons (eCall 2 m_others (aCons (eC (.str [97, 98, 99])) (aCons (eC (.int 2)) aNil))) (aCons (eCall 1 m_from_packs (aCons (eTup (aCons (eTup (aCons (eC (.str [115, 97, 109, 101])) (aCons (eC (.str [97])) (aCons (eC (.int 2)) aNil)))) (aCons (eTup (aCons (eC (.str [111, 116, 104, 101, 114])) (aCons (eC (.str [98, 99])) aNil))) aNil))) aNil)) aNil))))))
    (sSeq (sSet 0 (eBin opAdd (eLook 0) (eLst (aCons (eCall 1 m_size_of (aCons (eTup (aCons (eTup (aCons (eC (.str [115, 97, 109, 101])) (aCons (eC (.str [97])) (aCons (eC (.int 2)) aNil)))) (aCons (eTup (aCons (eC (.str [111, 116, 104, 101, 114])) (aCons (eC (.str [98, 99])) aNil))) aNil))) aNil)) (aCons (eCall 2 m_gaps_of (aCons (eC (.str [97, 98, 99, 97])) (aCons (eC (.str [97])) aNil))) (aCons (eCall 2 m_gaps_of (aCons (eC (.str [])) (aCons (eC (.str [97])) aNil))) (aCons (eCall 1 m_bit_runs (aCons (eC (.str [49, 49, 48, 48])) aNil)) (aCons (eCall 1 m_bit_runs (aCons (eC (.str [48, 49, 49])) aNil)) (aCons (eCall 1 m_bit_runs (aCons (eC (.str [])) aNil)) aNil)))))))))
    (sSeq (sSet 0 (eBin opAdd (eLook 0) (eLst (aCons (eCall 1 m_from_bit_runs (aCons (eTup (aCons (eC (.int 0)) (aCons (eC (.int 2)) (aCons (eC (.int 2)) aNil)))) aNil)) (aCons (eCall 1 m_from_bit_runs (aCons (eTup aNil) aNil)) (aCons (eCall 1 m_longest (aCons (eC (.str [97, 97, 98, 98])) aNil)) (aCons (eCall 1 m_longest (aCons (eC (.str [])) aNil)) (aCons (eCall 1 m_saved (aCons (eC (.str [97, 97, 97, 97])) aNil)) (aCons (eCall 1 m_saved (aCons (eC (.str [97, 98])) aNil)) aNil)))))))))
    (sSeq (sSet 1 (eLst (aCons (eC (.lam 4)) (aCons (eC (.lam 3)) (aCons (eC (.lam 2)) (aCons (eC (.lam 1)) (aCons (eC (.lam 0)) aNil)))))))
    (sSeq (sSet 1 (eBin opAdd (eLook 1) (eLst (aCons (eC (.lam 9)) (aCons (eC (.lam 8)) (aCons (eC (.lam 7)) (aCons (eC (.lam 6)) (aCons (eC (.lam 5)) aNil))))))))
    (sSeq (sSet 1 (eBin opAdd (eLook 1) (eLst (aCons (eC (.lam 14)) (aCons (eC (.lam 13)) (aCons (eC (.lam 12)) (aCons (eC (.lam 11)) (aCons (eC (.lam 10)) aNil))))))))
    (sSeq (sSet 1 (eBin opAdd (eLook 1) (eLst (aCons (eC (.lam 19)) (aCons (eC (.lam 18)) (aCons (eC (.lam 17)) (aCons (eC (.lam 16)) (aCons (eC (.lam 15)) aNil))))))))
    (sSeq (sSet 1 (eBin opAdd (eLook 1) (eLst (aCons (eC (.lam 20)) aNil))))
    (sSeq (sIf (tOrM (tB1 (eBin opNe (eLc (.t [(.n 2), (.n 3)]) [2, 3] (iEnA (aCons (eVar 1) aNil)) (tB1 (eBin opNe (eToldL subE [82, 117, 110, 69, 114, 114, 111, 114] lamM (eVar 3)) (eC (.str [82, 117, 110, 69, 114, 114, 111, 114])))) (eVar 2)) (eLst aNil))) (tB1 (eBin opNe (eC (.int 400)) (eC (.int 400))))) (sRet (eC (.bl false))) sNx)
    (sSeq (sSet 4 (eLst (aCons (eC .non) (aCons (eTup (aCons (eTup (aCons (eC (.str [97])) (aCons (eC (.int 2)) aNil))) (aCons (eTup (aCons (eC (.str [98])) (aCons (eC (.int 1)) aNil))) aNil))) (aCons (eTup aNil) (aCons (eC (.str [97, 97, 97])) (aCons (eC (.str [51, 97, 98])) (aCons (eC (.str [])) (aCons (eC (.str [97, 97, 97, 97, 97, 97, 97, 97, 97, 97, 97, 97, 98])) (aCons (eC (.str [])) (aCons (eTup (aCons (eTup (aCons (eC (.str [115, 97, 109, 101])) (aCons (eC (.str [97])) (aCons (eC (.int 4)) aNil)))) (aCons (eTup (aCons (eC (.str [111, 116, 104, 101, 114])) (aCons (eC (.str [98, 99, 98, 99])) aNil))) (aCons (eTup (aCons (eC (.str [115, 97, 109, 101])) (aCons (eC (.str [100])) (aCons (eC (.int 5)) aNil)))) (aCons (eTup (aCons (eC (.str [111, 116, 104, 101, 114])) (aCons (eC (.str [100, 100])) aNil))) aNil))))) (aCons (eLst (aCons (eTup (aCons (eC (.str [111, 116, 104, 101, 114])) (aCons (eC (.str [97, 98])) aNil))) (aCons (eTup (aCons (eC (.str [111, 116, 104, 101, 114])) (aCons (eC (.str [99])) aNil))) aNil))) (aCons (eC (.str [97, 97, 98, 99])) (aCons (eC (.int 5)) (aCons (eTup (aCons (eC (.int 0)) (aCons (eC (.int 2)) (aCons (eC (.int 0)) aNil)))) (aCons (eTup (aCons (eC (.int 0)) aNil)) (aCons (eTup (aCons (eC (.int 0)) (aCons (eC (.int 2)) (aCons (eC (.int 2)) aNil)))) (aCons (eTup (aCons (eC (.int 1)) (aCons (eC (.int 2)) aNil))) (aCons (eTup aNil) (aCons (eC (.str [49, 49, 48, 48])) (aCons (eC (.str [])) (aCons (eTup (aCons (eC (.str [97])) (aCons (eC (.int 2)) (aCons (eC (.int 0)) aNil)))) (aCons (eC .non) (aCons (eC (.int 2)) (aCons (eC (.int 0)) aNil)))))))))))))))))))))))))
    (sRet (eBin opEq (eLook 0) (eLook 4))))))))))))))
def m__law_plain : FM := mkF 5 b__law_plain
theorem sc__law_plain : FnScope ["told", "bad", "k", "f", "due"] [] (defScope (top 29)) := ⟨rfl, rfl, rfl, by decide +kernel, rfl, by decide +kernel, by decide +kernel⟩
theorem z__law_plain (fx : Fx P w K mg base G) : FnZ P w K mg base G 15 "_law_plain" 0 m__law_plain := by
  obtain ⟨f, fd, c0, P0, F, gm, hc0, TB, tab, uni⟩ := fx.d__law_plain
  have hK := fx.hK
  refine ⟨⟨f, fd, _, rfl, fn_ok (k := 14) F sc__law_plain (fun W c A outer s H E hcode hr => ?_), gm, F.kp, F.bindsN fun _ _ _ _ _ _ us hl => match us, hl with | [], _ => rfl⟩⟩
  obtain rfl := same_code hc0 hcode
  have hN : List.Nodup (["told", "bad", "k", "f", "due"] : List Str) := by decide +kernel
  exact (ss_cons (s_set (i := 0) hN (n_e (n_lst (a_cons (e_call (z_check_text fx) hr takes_fn (a_cons (e_str (l := [97])) a_nil) (hk := by omega)) (a_cons (e_call (z_runs fx) hr takes_fn (a_cons (e_str (l := [97, 97, 98])) a_nil) (hk := by omega)) (a_cons (e_call (z_runs fx) hr takes_fn (a_cons (e_str (l := [])) a_nil) (hk := by omega)) (a_cons (e_call (z_from_runs fx) hr takes_fn (a_cons (e_tup (a_cons (e_tup (a_cons (e_str (l := [97])) (a_cons e_int a_nil))) (a_cons (e_tup (a_cons (e_str (l := [97])) (a_cons e_int a_nil))) a_nil))) a_nil) (hk := by omega)) (a_cons (e_call (z_told_runs fx) hr takes_fn (a_cons (e_str (l := [97, 97, 97, 98])) a_nil) (hk := by omega)) (a_cons (e_call (z_told_runs fx) hr takes_fn (a_cons (e_str (l := [])) a_nil) (hk := by omega)) (a_cons (e_call (z_read_runs fx) hr takes_fn (a_cons (e_str (l := [49, 50, 97, 98])) a_nil) (hk := by omega)) (a_cons (e_call (z_read_runs fx) hr takes_fn (a_cons (e_str (l := [])) a_nil) (hk := by omega)) a_nil)))))))))))
    (ss_cons (s_set (i := 0) hN (e_binB op_addAll (s_add hK) (b_look (i := 0)) (toB (n_e (n_lst (a_cons (e_call (z_packs fx) hr takes_fn (a_cons (e_str (l := [97, 97, 97, 97, 98, 99, 98, 99, 100, 100, 100, 100, 100, 100, 100])) (a_cons e_int (a_cons e_int a_nil))) (hk := by omega)) (a_cons (e_call (z_others fx) hr takes_fn (a_cons (e_str (l := [97, 98, 99])) (a_cons e_int a_nil)) (hk := by omega)) (a_cons (e_call (z_from_packs fx) hr takes_fn (a_cons (e_tup (a_cons (e_tup (a_cons (e_str (l := [115, 97, 109, 101])) (a_cons (e_str (l := [97])) (a_cons e_int a_nil)))) (a_cons (e_tup (a_cons (e_str (l := [111, 116, 104, 101, 114])) (a_cons (e_str (l := [98, 99])) a_nil))) a_nil))) a_nil) (hk := by omega)) a_nil))))))))
    (ss_cons (s_set (i := 0) hN (e_binB op_addAll (s_add hK) (b_look (i := 0)) (toB (n_e (n_lst (a_cons (e_call (z_size_of fx) hr takes_fn (a_cons (e_tup (a_cons (e_tup (a_cons (e_str (l := [115, 97, 109, 101])) (a_cons (e_str (l := [97])) (a_cons e_int a_nil)))) (a_cons (e_tup (a_cons (e_str (l := [111, 116, 104, 101, 114])) (a_cons (e_str (l := [98, 99])) a_nil))) a_nil))) a_nil) (hk := by omega)) (a_cons (e_call (z_gaps_of fx) hr takes_fn (a_cons (e_str (l := [97, 98, 99, 97])) (a_cons (e_str (l := [97])) a_nil)) (hk := by omega)) (a_cons (e_call (z_gaps_of fx) hr takes_fn (a_cons (e_str (l := [])) (a_cons (e_str (l := [97])) a_nil)) (hk := by omega)) (a_cons (e_call (z_bit_runs fx) hr takes_fn (a_cons (e_str (l := [49, 49, 48, 48])) a_nil) (hk := by omega)) (a_cons (e_call (z_bit_runs fx) hr takes_fn (a_cons (e_str (l := [48, 49, 49])) a_nil) (hk := by omega)) (a_cons (e_call (z_bit_runs fx) hr takes_fn (a_cons (e_str (l := [])) a_nil) (hk := by omega)) a_nil)))))))))))
    (ss_cons (s_set (i := 0) hN (e_binB op_addAll (s_add hK) (b_look (i := 0)) (toB (n_e (n_lst (a_cons (e_call (z_from_bit_runs fx) hr takes_fn (a_cons (e_tup (a_cons e_int (a_cons e_int (a_cons e_int a_nil)))) a_nil) (hk := by omega)) (a_cons (e_call (z_from_bit_runs fx) hr takes_fn (a_cons (e_tup a_nil) a_nil) (hk := by omega)) (a_cons (e_call (z_longest fx) hr takes_fn (a_cons (e_str (l := [97, 97, 98, 98])) a_nil) (hk := by omega)) (a_cons (e_call (z_longest fx) hr takes_fn (a_cons (e_str (l := [])) a_nil) (hk := by omega)) (a_cons (e_call (z_saved fx) hr takes_fn (a_cons (e_str (l := [97, 97, 97, 97])) a_nil) (hk := by omega)) (a_cons (e_call (z_saved fx) hr takes_fn (a_cons (e_str (l := [97, 98])) a_nil) (hk := by omega)) a_nil)))))))))))
    (ss_cons (s_set (i := 1) hN (n_e (n_lst (a_cons (e_lam (i := 4) (congrFun fx.lam 4) TB rfl tab uni) (a_cons (e_lam (i := 3) (congrFun fx.lam 3) TB rfl tab uni) (a_cons (e_lam (i := 2) (congrFun fx.lam 2) TB rfl tab uni) (a_cons (e_lam (i := 1) (congrFun fx.lam 1) TB rfl tab uni) (a_cons (e_lam (i := 0) (congrFun fx.lam 0) TB rfl tab uni) a_nil))))))))
    (ss_cons (s_set (i := 1) hN (e_binB op_addAll (s_add hK) (b_look (i := 1)) (toB (n_e (n_lst (a_cons (e_lam (i := 9) (congrFun fx.lam 9) TB rfl tab uni) (a_cons (e_lam (i := 8) (congrFun fx.lam 8) TB rfl tab uni) (a_cons (e_lam (i := 7) (congrFun fx.lam 7) TB rfl tab uni) (a_cons (e_lam (i := 6) (congrFun fx.lam 6) TB rfl tab uni) (a_cons (e_lam (i := 5) (congrFun fx.lam 5) TB rfl tab uni) a_nil))))))))))
    (ss_cons (s_set (i := 1) hN (e_binB op_addAll (s_add hK) (b_look (i := 1)) (toB (n_e (n_lst (a_cons (e_lam (i := 14) (congrFun fx.lam 14) TB rfl tab uni) (a_cons (e_lam (i := 13) (congrFun fx.lam 13) TB rfl tab uni) (a_cons (e_lam (i := 12) (congrFun fx.lam 12) TB rfl tab uni) (a_cons (e_lam (i := 11) (congrFun fx.lam 11) TB rfl tab uni) (a_cons (e_lam (i := 10) (congrFun fx.lam 10) TB rfl tab uni) a_nil))))))))))
    (ss_cons (s_set (i := 1) hN (e_binB op_addAll (s_add hK) (b_look (i := 1)) (toB (n_e (n_lst (a_cons (e_lam (i := 19) (congrFun fx.lam 19) TB rfl tab uni) (a_cons (e_lam (i := 18) (congrFun fx.lam 18) TB rfl tab uni) (a_cons (e_lam (i := 17) (congrFun fx.lam 17) TB rfl tab uni) (a_cons (e_lam (i := 16) (congrFun fx.lam 16) TB rfl tab uni) (a_cons (e_lam (i := 15) (congrFun fx.lam 15) TB rfl tab uni) a_nil))))))))))
    (ss_cons (s_set (i := 1) hN (e_binB op_addAll (s_add hK) (b_look (i := 1)) (toB (n_e (n_lst (a_cons (e_lam (i := 20) (congrFun fx.lam 20) TB rfl tab uni) a_nil))))))
    (ss_cons (s_if (PW.pt (w_or (t_cmp (oNe hr) (s_ne hK) (toB (n_e (n_lc [("k", 2), ("f", 3)] rfl hN (i_enA hK fx.f_enumerate (a_cons (e_var (i := 1)) a_nil)) (blkOk_by (by kernel_rfl)) (fun _ _ _ _ _ => (g_tup hK rfl (gs_cons (g_name hN) (gs_cons (g_name hN) gs_nil)))) (fun _ _ _ _ _ => (pts_one (t_cmp (oNe hr) (s_ne hK) (toB (e_toldL (k := 12) (told_z (k := 12) fx rfl rfl) (hr.mono (by omega)) rfl fx.sub (lz_all fx) (e_var (i := 3)))) (toB (e_str (l := [82, 117, 110, 69, 114, 114, 111, 114])))))) (fun _ _ _ _ _ => (e_var (i := 2)))))) (toB (n_e (n_lst a_nil)))) (w_or1 (t_cmp (oNe hr) (s_ne hK) (toB (e_gint fx.c_MOST_TEXT)) (toB e_int))))) (ss_one (s_ret e_bl)) ss_nil)
    (ss_cons (s_set (i := 4) hN (n_e (n_lst (a_cons e_non (a_cons (e_tup (a_cons (e_tup (a_cons (e_str (l := [97])) (a_cons e_int a_nil))) (a_cons (e_tup (a_cons (e_str (l := [98])) (a_cons e_int a_nil))) a_nil))) (a_cons (e_tup a_nil) (a_cons (e_str (l := [97, 97, 97])) (a_cons (e_str (l := [51, 97, 98])) (a_cons (e_str (l := [])) (a_cons (e_str (l := [97, 97, 97, 97, 97, 97, 97, 97, 97, 97, 97, 97, 98])) (a_cons (e_str (l := [])) (a_cons (e_tup (a_cons (e_tup (a_cons (e_str (l := [115, 97, 109, 101])) (a_cons (e_str (l := [97])) (a_cons e_int a_nil)))) (a_cons (e_tup (a_cons (e_str (l := [111, 116, 104, 101, 114])) (a_cons (e_str (l := [98, 99, 98, 99])) a_nil))) (a_cons (e_tup (a_cons (e_str (l := [115, 97, 109, 101])) (a_cons (e_str (l := [100])) (a_cons e_int a_nil)))) (a_cons (e_tup (a_cons (e_str (l := [111, 116, 104, 101, 114])) (a_cons (e_str (l := [100, 100])) a_nil))) a_nil))))) (a_cons (n_e (n_lst (a_cons (e_tup (a_cons (e_str (l := [111, 116, 104, 101, 114])) (a_cons (e_str (l := [97, 98])) a_nil))) (a_cons (e_tup (a_cons (e_str (l := [111, 116, 104, 101, 114])) (a_cons (e_str (l := [99])) a_nil))) a_nil)))) (a_cons (e_str (l := [97, 97, 98, 99])) (a_cons e_int (a_cons (e_tup (a_cons e_int (a_cons e_int (a_cons e_int a_nil)))) (a_cons (e_tup (a_cons e_int a_nil)) (a_cons (e_tup (a_cons e_int (a_cons e_int (a_cons e_int a_nil)))) (a_cons (e_tup (a_cons e_int (a_cons e_int a_nil))) (a_cons (e_tup a_nil) (a_cons (e_str (l := [49, 49, 48, 48])) (a_cons (e_str (l := [])) (a_cons (e_tup (a_cons (e_str (l := [97])) (a_cons e_int (a_cons e_int a_nil)))) (a_cons e_non (a_cons e_int (a_cons e_int a_nil))))))))))))))))))))))))))
    (ss_one (s_ret (e_cmp (oEq hr) (s_eq hK) (b_look (i := 0)) (b_look (i := 4))))))))))))))))
/-! law -/
def b_law : SM :=
  (sSeq (sFor (.n 1) (iOf (eCall 2 m__law_rounds (aCons (eVar 0) (aCons (eC (.int 1)) aNil)))) (sSeq (sSet 2 (eCall 3 m__law_text (aCons (eVar 1) (aCons (eC (.str [97, 98, 99])) (aCons (eC (.int 16)) aNil)))))
    (sSeq (sSet 3 (eCall 1 m__law_runs (aCons (eVar 2) aNil)))
    (sSeq (sSet 4 (eM1 mJoin (eC (.str [])) (eLc (.t [(.n 15), (.n 19)]) [15, 19] (iOf (eVar 3)) tYesM (eBin opAdd (eIf (tB1 (eBin opGt (eLook 19) (eC (.int 1)))) (eBi bStr (aCons (eLook 19) aNil)) (eC (.str []))) (eLook 15)))))
    (sSeq (sIf (tOrM (tB1 (eBin opNe (eBi bList (aCons (eCall 1 m_runs (aCons (eVar 2) aNil)) aNil)) (eLook 3))) (tOrM (tB1 (eBin opNe (eCall 1 m_from_runs (aCons (eVar 3) aNil)) (eLook 2))) (tOrM (tB1 (eBin opNe (eCall 1 m_told_runs (aCons (eVar 2) aNil)) (eLook 4))) (tOrM (tB1 (eBin opNe (eCall 1 m_read_runs (aCons (eVar 4) aNil)) (eLook 2))) (tB1 (eBin opNe (eCall 1 m_saved (aCons (eVar 2) aNil)) (eBin opSub (eBi bLen (aCons (eLook 2) aNil)) (eBi bLen (aCons (eLook 4) aNil))))))))) (sRet (eC (.bl false))) sNx)
    (sSeq (sSet 5 (eCall 3 m__law_text (aCons (eVar 1) (aCons (eBin opIx (eLst (aCons (eC (.str [97, 49])) (aCons (eC (.str [98, 48])) (aCons (eC (.str [50, 99])) (aCons (eC (.str [49, 50, 48, 51])) (aCons (eC (.str [97])) aNil)))))) (eCall 2 m__law_roll (aCons (eVar 1) (aCons (eC (.int 5)) aNil)))) (aCons (eC (.int 6)) aNil)))))
    (sSeq (sIf (tB1 (eBin opNe (eTold subE [82, 117, 110, 69, 114, 114, 111, 114] (eCall 1 m_read_runs (aCons (eVar 5) aNil))) (eIf (tIsNM true (eCall 1 m__law_read (aCons (eVar 5) aNil))) (eCall 1 m__law_read (aCons (eVar 5) aNil)) (eC (.str [82, 117, 110, 69, 114, 114, 111, 114]))))) (sRet (eC (.bl false))) sNx)
    (sSeq (sSet 6 (eLc (.n 18) [18] (iR1 (aCons (eCall 2 m__law_roll (aCons (eVar 1) (aCons (eC (.int 5)) aNil))) aNil)) tYesM (eTup (aCons (eBin opIx (eC (.str [97, 98])) (eCall 2 m__law_roll (aCons (eVar 1) (aCons (eC (.int 2)) aNil)))) (aCons (eCall 2 m__law_roll (aCons (eVar 1) (aCons (eC (.int 5)) aNil))) aNil)))))
    (sSeq (sIf (tB1 (eBin opNe (eTold subE [82, 117, 110, 69, 114, 114, 111, 114] (eCall 1 m_from_runs (aCons (eVar 6) aNil))) (eIf (tB1 (eBin opIn (eC (.int 0)) (eLc (.t [(.n 15), (.n 19)]) [15, 19] (iOf (eVar 6)) tYesM (eVar 19)))) (eC (.str [82, 117, 110, 69, 114, 114, 111, 114])) (eM1 mJoin (eC (.str [])) (eLc (.t [(.n 15), (.n 19)]) [15, 19] (iOf (eVar 6)) tYesM (eBin opMul (eLook 15) (eLook 19))))))) (sRet (eC (.bl false))) sNx)
    (sSeq (sSet 7 (eBin opAdd (eC (.int 2)) (eCall 2 m__law_roll (aCons (eVar 1) (aCons (eC (.int 3)) aNil)))))
    (sSeq (sSet 8 (eBin opAdd (eLook 7) (eCall 2 m__law_roll (aCons (eVar 1) (aCons (eC (.int 4)) aNil)))))
    (sSeq (sSet 9 (eCall 3 m__law_packs (aCons (eVar 2) (aCons (eVar 7) (aCons (eVar 8) aNil)))))
    (sSeq (sIf (tOrM (tB1 (eBin opNe (eBi bList (aCons (eCall 3 m_packs (aCons (eVar 2) (aCons (eVar 7) (aCons (eVar 8) aNil)))) aNil)) (eLook 9))) (tOrM (tB1 (eBin opNe (eCall 1 m_from_packs (aCons (eVar 9) aNil)) (eLook 2))) (tOrM (tB1 (eBin opNe (eCall 1 m_size_of (aCons (eVar 9) aNil)) (eBi bSumA (aCons (eLc (.n 13) [13] (iOf (eVar 9)) tYesM (eIf (tB1 (eBin opEq (eBin opIx (eLook 13) (eC (.int 0))) (eC (.str [115, 97, 109, 101])))) (eC (.int 2)) (eBin opAdd (eC (.int 1)) (eBi bLen (aCons (eBin opIx (eLook 13) (eC (.int 1))) aNil))))) aNil)))) (tB1 (eBin opNe (eCall 2 m_others (aCons (eVar 2) (aCons (eVar 8) aNil))) (eCall 2 m__law_cut (aCons (eVar 2) (aCons (eVar 8) aNil)))))))) (sRet (eC (.bl false))) sNx)
    (sSeq (sPar3 15 16 17 (eBin opIx (eC (.str [97, 98, 99, 100])) (eCall 2 m__law_roll (aCons (eVar 1) (aCons (eC (.int 4)) aNil)))) (eLst aNil) (eC (.int 0)))
    (sSeq (sFor (.n 10) (iOf (eVar 2)) (sPar 16 17 (vE (eIf (tB1 (eBin opEq (eLook 10) (eLook 15))) (eBin opAdd (eLook 16) (eLst (aCons (eVar 17) aNil))) (eVar 16))) (vE (eIf (tB1 (eBin opEq (eLook 10) (eLook 15))) (eC (.int 0)) (eBin opAdd (eLook 17) (eC (.int 1)))))))
    (sSeq (sIf (tB1 (eBin opNe (eBi bList (aCons (eCall 2 m_gaps_of (aCons (eVar 2) (aCons (eVar 15) aNil))) aNil)) (eBin opAdd (eLook 16) (eLst (aCons (eVar 17) aNil))))) (sRet (eC (.bl false))) sNx)
    (sSeq (sSet 11 (eCall 3 m__law_text (aCons (eVar 1) (aCons (eC (.str [48, 49])) (aCons (eC (.int 12)) aNil)))))
    (sSeq (sSet 12 (eLc (.t [(.n 10), (.n 19)]) [10, 19] (iOf (eCall 1 m__law_runs (aCons (eVar 11) aNil))) tYesM (eVar 19)))
    (sSeq (sSet 12 (eIf (tAndM (tB1 (eBin opNe (eLook 11) (eC (.str [])))) (tB1 (eBin opEq (eBin opIx (eLook 11) (eC (.int 0))) (eC (.str [49]))))) (eBin opAdd (eLst (aCons (eC (.int 0)) aNil)) (eLook 12)) (eVar 12)))
    (sSeq (sIf (tOrM (tB1 (eBin opNe (eBi bList (aCons (eCall 1 m_bit_runs (aCons (eVar 11) aNil)) aNil)) (eLook 12))) (tB1 (eBin opNe (eCall 1 m_from_bit_runs (aCons (eVar 12) aNil)) (eLook 11)))) (sRet (eC (.bl false))) sNx)
    (sSeq (sSet 13 (eLc (.n 18) [18] (iR1 (aCons (eCall 2 m__law_roll (aCons (eVar 1) (aCons (eC (.int 5)) aNil))) aNil)) tYesM (eCall 2 m__law_roll (aCons (eVar 1) (aCons (eC (.int 4)) aNil)))))
    (sSeq (sIf (tB1 (eBin opNe (eTold subE [82, 117, 110, 69, 114, 114, 111, 114] (eCall 1 m_from_bit_runs (aCons (eVar 13) aNil))) (eIf (tB1 (eBin opIn (eC (.int 0)) (eSl (eLook 13) (pAt (eC (.int 1))) pNo))) (eC (.str [82, 117, 110, 69, 114, 114, 111, 114])) (eM1 mJoin (eC (.str [])) (eLc (.t [(.n 18), (.n 19)]) [18, 19] (iEnA (aCons (eVar 13) aNil)) tYesM (eBin opMul (eBin opIx (eC (.str [48, 49])) (eBin opSub (eLook 18) (eBin opMul (eBin opDiv (eLook 18) (eC (.int 2))) (eC (.int 2))))) (eLook 19))))))) (sRet (eC (.bl false))) sNx)
    (sSeq (sSet 14 (eLc (.n 18) [18] (iR1 (aCons (eBi bLen (aCons (eLook 3) aNil)) aNil)) (tB1 (eBin opEq (eBin opIx (eBin opIx (eLook 3) (eVar 18)) (eC (.int 1))) (eBi bMax (aCons (eLc (.t [(.n 10), (.n 19)]) [10, 19] (iOf (eVar 3)) tYesM (eVar 19)) aNil)))) (eVar 18)))
    (sIf (tB1 (eBin opNe (eCall 1 m_longest (aCons (eVar 2) aNil)) (eIf (tB1 (eBin opNe (eLook 14) (eLst aNil))) (eBin opAdd (eBin opIx (eLook 3) (eBin opIx (eLook 14) (eC (.int 0)))) (eTup (aCons (eBi bSumA (aCons (eLc (.t [(.n 10), (.n 19)]) [10, 19] (iOf (eSl (eLook 3) pNo (pAt (eBin opIx (eLook 14) (eC (.int 0)))))) tYesM (eVar 19)) aNil)) aNil))) (eC .non)))) (sRet (eC (.bl false))) sNx))))))))))))))))))))))))
    (sRet (eCall 0 m__law_plain aNil)))
def m_law : FM := mkF 20 b_law
theorem sc_law : FnScope ["script", "dice", "text", "rows", "told", "odd", "loose", "least", "most", "parts", "one", "bits", "longs", "row", "best", "sign", "gaps", "here", "k", "many"] ["script"] (defScope (top 30)) := ⟨rfl, rfl, rfl, by decide +kernel, rfl, by decide +kernel, by decide +kernel⟩
theorem z_law (fx : Fx P w K mg base G) : FnL P w K mg base G 16 "law" "script" (top 30) m_law := by
  obtain ⟨f, fd, c0, P0, F, gm, hc0, TB, tab, uni⟩ := fx.d_law
  have hK := fx.hK
  refine ⟨f, fd, F, gm, fn_ok (k := 15) F sc_law (fun W c A outer s H E hcode hr => ?_)⟩
  obtain rfl := same_code hc0 hcode
  have hN : List.Nodup (["script", "dice", "text", "rows", "told", "odd", "loose", "least", "most", "parts", "one", "bits", "longs", "row", "best", "sign", "gaps", "here", "k", "many"] : List Str) := by decide +kernel
  exact (ss_cons (s_for owns_fn rfl (g_name hN) (i_of hK (e_call (z__law_rounds fx) hr takes_fn (a_cons (e_var (i := 0)) (a_cons e_int a_nil)) (hk := by omega))) (ss_cons (s_set (i := 2) hN (e_call (z__law_text fx) hr takes_fn (a_cons (e_var (i := 1)) (a_cons (e_str (l := [97, 98, 99])) (a_cons e_int a_nil))) (hk := by omega)))
    (ss_cons (s_set (i := 3) hN (e_call (z__law_runs fx) hr takes_fn (a_cons (e_var (i := 2)) a_nil) (hk := by omega)))
    (ss_cons (s_set (i := 4) hN (e_m1 (s_join hK) PySem.F.slot_str_join PySem.F.type_str_join mt_join (e_str (l := [])) (toB (n_e (n_lc [("sign", 15), ("many", 19)] rfl hN (i_of hK (e_var (i := 3))) (blkOk_by (by kernel_rfl)) (fun _ _ _ _ _ => (g_tup hK rfl (gs_cons (g_name hN) (gs_cons (g_name hN) gs_nil)))) (fun _ _ _ _ _ => t_yes) (fun _ _ _ _ _ => (e_binB op_addAll (s_add hK) (toB (e_if (t_cmp o_gt (s_cmp _ _) (b_look (i := 19)) (toB e_int)) (e_biT call_str_int s_str fx.f_str (by kernel_rfl) (ab_cons (b_look (i := 19)) ab_nil)) (e_str (l := [])))) (b_look (i := 15)))))))))
    (ss_cons (s_if (PW.pt (w_or (t_cmp (oNe hr) (s_ne hK) (toB (n_e (n_biT call_list_of (s_listN hK) fx.f_list (by kernel_rfl) (ab_cons (toB (e_call (z_runs fx) hr takes_fn (a_cons (e_var (i := 2)) a_nil) (hk := by omega))) ab_nil)))) (b_look (i := 3))) (w_or (t_cmp (oNe hr) (s_ne hK) (toB (e_call (z_from_runs fx) hr takes_fn (a_cons (e_var (i := 3)) a_nil) (hk := by omega))) (b_look (i := 2))) (w_or (t_cmp (oNe hr) (s_ne hK) (toB (e_call (z_told_runs fx) hr takes_fn (a_cons (e_var (i := 2)) a_nil) (hk := by omega))) (b_look (i := 4))) (w_or (t_cmp (oNe hr) (s_ne hK) (toB (e_call (z_read_runs fx) hr takes_fn (a_cons (e_var (i := 4)) a_nil) (hk := by omega))) (b_look (i := 2))) (w_or1 (t_cmp (oNe hr) (s_ne hK) (toB (e_call (z_saved fx) hr takes_fn (a_cons (e_var (i := 2)) a_nil) (hk := by omega))) (toB (e_binB op_sub s_sub (toB (e_bi call_len (s_len hK) fx.f_len (by kernel_rfl) (ab_cons (b_look (i := 2)) ab_nil))) (toB (e_bi call_len (s_len hK) fx.f_len (by kernel_rfl) (ab_cons (b_look (i := 4)) ab_nil)))))))))))) (ss_one (s_ret e_bl)) ss_nil)
    (ss_cons (s_set (i := 5) hN (e_call (z__law_text fx) hr takes_fn (a_cons (e_var (i := 1)) (a_cons (e_ix hK (toB (n_e (n_lst (a_cons (e_str (l := [97, 49])) (a_cons (e_str (l := [98, 48])) (a_cons (e_str (l := [50, 99])) (a_cons (e_str (l := [49, 50, 48, 51])) (a_cons (e_str (l := [97])) a_nil)))))))) (e_call (z__law_roll fx) hr takes_fn (a_cons (e_var (i := 1)) (a_cons e_int a_nil)) (hk := by omega))) (a_cons e_int a_nil))) (hk := by omega)))
    (ss_cons (s_if (t_cmp (oNe hr) (s_ne hK) (toB (e_told (k := 3) (told_z (k := 3) fx rfl rfl) (hr.mono (by omega)) rfl fx.sub TB rfl tab uni (LamX.lamS_by (by kernel_rfl)) (fun _ _ _ _ _ _ _ hr3 => (e_call (z_read_runs fx) hr3 takes_lam (a_cons (e_var (i := 5)) a_nil) (hk := by omega))))) (toB (e_if (t_notN (e_call (z__law_read fx) hr takes_fn (a_cons (e_var (i := 5)) a_nil) (hk := by omega))) (e_call (z__law_read fx) hr takes_fn (a_cons (e_var (i := 5)) a_nil) (hk := by omega)) (e_str (l := [82, 117, 110, 69, 114, 114, 111, 114]))))) (ss_one (s_ret e_bl)) ss_nil)
    (ss_cons (s_set (i := 6) hN (n_e (n_lc [("k", 18)] rfl hN (i_r1 fx.f_range (a_cons (e_call (z__law_roll fx) hr takes_fn (a_cons (e_var (i := 1)) (a_cons e_int a_nil)) (hk := by omega)) a_nil)) (blkOk_by (by kernel_rfl)) (fun _ _ _ _ _ => (g_name hN)) (fun _ _ _ _ _ => t_yes) (fun _ _ _ _ _ => (e_tup (a_cons (e_ix hK (toB (e_str (l := [97, 98]))) (e_call (z__law_roll fx) hr takes0 (a_cons (e_var (i := 1)) (a_cons e_int a_nil)) (hk := by omega))) (a_cons (e_call (z__law_roll fx) hr takes0 (a_cons (e_var (i := 1)) (a_cons e_int a_nil)) (hk := by omega)) a_nil)))))))
    (ss_cons (s_if (t_cmp (oNe hr) (s_ne hK) (toB (e_told (k := 2) (told_z (k := 2) fx rfl rfl) (hr.mono (by omega)) rfl fx.sub TB rfl tab uni (LamX.lamS_by (by kernel_rfl)) (fun _ _ _ _ _ _ _ hr3 => (e_call (z_from_runs fx) hr3 takes_lam (a_cons (e_var (i := 6)) a_nil) (hk := by omega))))) (toB (e_if (t_cmp (oIn hr) (s_in hK) (toB e_int) (toB (n_e (n_lc [("sign", 15), ("many", 19)] rfl hN (i_of hK (e_var (i := 6))) (blkOk_by (by kernel_rfl)) (fun _ _ _ _ _ => (g_tup hK rfl (gs_cons (g_name hN) (gs_cons (g_name hN) gs_nil)))) (fun _ _ _ _ _ => t_yes) (fun _ _ _ _ _ => (e_var (i := 19))))))) (e_str (l := [82, 117, 110, 69, 114, 114, 111, 114])) (e_m1 (s_join hK) PySem.F.slot_str_join PySem.F.type_str_join mt_join (e_str (l := [])) (toB (n_e (n_lc [("sign", 15), ("many", 19)] rfl hN (i_of hK (e_var (i := 6))) (blkOk_by (by kernel_rfl)) (fun _ _ _ _ _ => (g_tup hK rfl (gs_cons (g_name hN) (gs_cons (g_name hN) gs_nil)))) (fun _ _ _ _ _ => t_yes) (fun _ _ _ _ _ => (e_binB op_mulAll s_mul (b_look (i := 15)) (b_look (i := 19))))))))))) (ss_one (s_ret e_bl)) ss_nil)
    (ss_cons (s_set (i := 7) hN (e_binB op_addAll (s_add hK) (toB e_int) (toB (e_call (z__law_roll fx) hr takes_fn (a_cons (e_var (i := 1)) (a_cons e_int a_nil)) (hk := by omega)))))
    (ss_cons (s_set (i := 8) hN (e_binB op_addAll (s_add hK) (b_look (i := 7)) (toB (e_call (z__law_roll fx) hr takes_fn (a_cons (e_var (i := 1)) (a_cons e_int a_nil)) (hk := by omega)))))
    (ss_cons (s_set (i := 9) hN (e_call (z__law_packs fx) hr takes_fn (a_cons (e_var (i := 2)) (a_cons (e_var (i := 7)) (a_cons (e_var (i := 8)) a_nil))) (hk := by omega)))
    (ss_cons (s_if (PW.pt (w_or (t_cmp (oNe hr) (s_ne hK) (toB (n_e (n_biT call_list_of (s_listN hK) fx.f_list (by kernel_rfl) (ab_cons (toB (e_call (z_packs fx) hr takes_fn (a_cons (e_var (i := 2)) (a_cons (e_var (i := 7)) (a_cons (e_var (i := 8)) a_nil))) (hk := by omega))) ab_nil)))) (b_look (i := 9))) (w_or (t_cmp (oNe hr) (s_ne hK) (toB (e_call (z_from_packs fx) hr takes_fn (a_cons (e_var (i := 9)) a_nil) (hk := by omega))) (b_look (i := 2))) (w_or (t_cmp (oNe hr) (s_ne hK) (toB (e_call (z_size_of fx) hr takes_fn (a_cons (e_var (i := 9)) a_nil) (hk := by omega))) (toB (e_bi (cr_sumA rfl) (s_sumA hK) fx.f_sum (by kernel_rfl) (ab_cons (toB (n_e (n_lc [("row", 13)] rfl hN (i_of hK (e_var (i := 9))) (blkOk_by (by kernel_rfl)) (fun _ _ _ _ _ => (g_name hN)) (fun _ _ _ _ _ => t_yes) (fun _ _ _ _ _ => (e_if (t_cmp (oEq hr) (s_eq hK) (toB (e_ix hK (b_look (i := 13)) e_int)) (toB (e_str (l := [115, 97, 109, 101])))) e_int (e_binB op_addAll (s_add hK) (toB e_int) (toB (e_bi call_len (s_len hK) fx.f_len (by kernel_rfl) (ab_cons (toB (e_ix hK (b_look (i := 13)) e_int)) ab_nil))))))))) ab_nil)))) (w_or1 (t_cmp (oNe hr) (s_ne hK) (toB (e_call (z_others fx) hr takes_fn (a_cons (e_var (i := 2)) (a_cons (e_var (i := 8)) a_nil)) (hk := by omega))) (toB (e_call (z__law_cut fx) hr takes_fn (a_cons (e_var (i := 2)) (a_cons (e_var (i := 8)) a_nil)) (hk := by omega))))))))) (ss_one (s_ret e_bl)) ss_nil)
    (ss_cons (s_par3 (i := 15) (j := 16) (l := 17) rfl hN (e_ix hK (toB (e_str (l := [97, 98, 99, 100]))) (e_call (z__law_roll fx) hr takes_fn (a_cons (e_var (i := 1)) (a_cons e_int a_nil)) (hk := by omega))) (n_e (n_lst a_nil)) e_int)
    (ss_cons (s_for owns_fn rfl (g_name hN) (i_of hK (e_var (i := 2))) (ss_one (s_par (i := 16) (j := 17) rfl hN (v_e (e_if (t_cmp (oEq hr) (s_eq hK) (b_look (i := 10)) (b_look (i := 15))) (e_binB op_addAll (s_add hK) (b_look (i := 16)) (toB (n_e (n_lst (a_cons (e_var (i := 17)) a_nil))))) (e_var (i := 16)))) (v_e (e_if (t_cmp (oEq hr) (s_eq hK) (b_look (i := 10)) (b_look (i := 15))) e_int (e_binB op_addAll (s_add hK) (b_look (i := 17)) (toB e_int)))))))
    (ss_cons (s_if (t_cmp (oNe hr) (s_ne hK) (toB (n_e (n_biT call_list_of (s_listN hK) fx.f_list (by kernel_rfl) (ab_cons (toB (e_call (z_gaps_of fx) hr takes_fn (a_cons (e_var (i := 2)) (a_cons (e_var (i := 15)) a_nil)) (hk := by omega))) ab_nil)))) (toB (e_binB op_addAll (s_add hK) (b_look (i := 16)) (toB (n_e (n_lst (a_cons (e_var (i := 17)) a_nil))))))) (ss_one (s_ret e_bl)) ss_nil)
    (ss_cons (s_set (i := 11) hN (e_call (z__law_text fx) hr takes_fn (a_cons (e_var (i := 1)) (a_cons (e_str (l := [48, 49])) (a_cons e_int a_nil))) (hk := by omega)))
    (ss_cons (s_lc (i := 12) true [("one", 10), ("many", 19)] rfl hN (i_of hK (e_call (z__law_runs fx) hr takes_fn (a_cons (e_var (i := 11)) a_nil) (hk := by omega))) (blkOk_by (by kernel_rfl)) (fun _ _ _ _ _ => (g_tup hK rfl (gs_cons (g_name hN) (gs_cons (g_name hN) gs_nil)))) (fun _ _ _ _ _ => t_yes) (fun _ _ _ _ _ => (e_var (i := 19))))
    (ss_cons (s_set (i := 12) hN (e_if (PW.pt (w_and (t_cmp (oNe hr) (s_ne hK) (b_look (i := 11)) (toB (e_str (l := [])))) (w_and1 (t_cmp (oEq hr) (s_eq hK) (toB (e_ix hK (b_look (i := 11)) e_int)) (toB (e_str (l := [49]))))))) (e_binB op_addAll (s_add hK) (toB (n_e (n_lst (a_cons e_int a_nil)))) (b_look (i := 12))) (e_var (i := 12))))
    (ss_cons (s_if (PW.pt (w_or (t_cmp (oNe hr) (s_ne hK) (toB (n_e (n_biT call_list_of (s_listN hK) fx.f_list (by kernel_rfl) (ab_cons (toB (e_call (z_bit_runs fx) hr takes_fn (a_cons (e_var (i := 11)) a_nil) (hk := by omega))) ab_nil)))) (b_look (i := 12))) (w_or1 (t_cmp (oNe hr) (s_ne hK) (toB (e_call (z_from_bit_runs fx) hr takes_fn (a_cons (e_var (i := 12)) a_nil) (hk := by omega))) (b_look (i := 11)))))) (ss_one (s_ret e_bl)) ss_nil)
    (ss_cons (s_set (i := 13) hN (n_e (n_lc [("k", 18)] rfl hN (i_r1 fx.f_range (a_cons (e_call (z__law_roll fx) hr takes_fn (a_cons (e_var (i := 1)) (a_cons e_int a_nil)) (hk := by omega)) a_nil)) (blkOk_by (by kernel_rfl)) (fun _ _ _ _ _ => (g_name hN)) (fun _ _ _ _ _ => t_yes) (fun _ _ _ _ _ => (e_call (z__law_roll fx) hr takes0 (a_cons (e_var (i := 1)) (a_cons e_int a_nil)) (hk := by omega))))))
    (ss_cons (s_if (t_cmp (oNe hr) (s_ne hK) (toB (e_told (k := 2) (told_z (k := 2) fx rfl rfl) (hr.mono (by omega)) rfl fx.sub TB rfl tab uni (LamX.lamS_by (by kernel_rfl)) (fun _ _ _ _ _ _ _ hr3 => (e_call (z_from_bit_runs fx) hr3 takes_lam (a_cons (e_var (i := 13)) a_nil) (hk := by omega))))) (toB (e_if (t_cmp (oIn hr) (s_in hK) (toB e_int) (toB (e_sl hK (b_look (i := 13)) (p_at e_int) p_no))) (e_str (l := [82, 117, 110, 69, 114, 114, 111, 114])) (e_m1 (s_join hK) PySem.F.slot_str_join PySem.F.type_str_join mt_join (e_str (l := [])) (toB (n_e (n_lc [("k", 18), ("many", 19)] rfl hN (i_enA hK fx.f_enumerate (a_cons (e_var (i := 13)) a_nil)) (blkOk_by (by kernel_rfl)) (fun _ _ _ _ _ => (g_tup hK rfl (gs_cons (g_name hN) (gs_cons (g_name hN) gs_nil)))) (fun _ _ _ _ _ => t_yes) (fun _ _ _ _ _ => (e_binB op_mulAll s_mul (toB (e_ix hK (toB (e_str (l := [48, 49]))) (e_binB op_sub s_sub (b_look (i := 18)) (toB (e_binB op_mulAll s_mul (toB (e_binB op_fdivN s_div (b_look (i := 18)) (toB e_int))) (toB e_int)))))) (b_look (i := 19))))))))))) (ss_one (s_ret e_bl)) ss_nil)
    (ss_cons (s_lc (i := 14) true [("k", 18)] rfl hN (i_r1 fx.f_range (a_cons (e_bi call_len (s_len hK) fx.f_len (by kernel_rfl) (ab_cons (b_look (i := 3)) ab_nil)) a_nil)) (blkOk_by (by kernel_rfl)) (fun _ _ _ _ _ => (g_name hN)) (fun _ _ _ _ _ => (pts_one (t_cmp (oEq hr) (s_eq hK) (toB (e_ix hK (toB (e_ix hK (b_look (i := 3)) (e_var (i := 18)))) e_int)) (toB (e_bi (cr_max rfl) s_maxL fx.f_max (by kernel_rfl) (ab_cons (toB (n_e (n_lc [("one", 10), ("many", 19)] rfl hN (i_of hK (e_var (i := 3))) (blkOk_by (by kernel_rfl)) (fun _ _ _ _ _ => (g_tup hK rfl (gs_cons (g_name hN) (gs_cons (g_name hN) gs_nil)))) (fun _ _ _ _ _ => t_yes) (fun _ _ _ _ _ => (e_var (i := 19)))))) ab_nil)))))) (fun _ _ _ _ _ => (e_var (i := 18))))
    (ss_one (s_if (t_cmp (oNe hr) (s_ne hK) (toB (e_call (z_longest fx) hr takes_fn (a_cons (e_var (i := 2)) a_nil) (hk := by omega))) (toB (e_if (t_cmp (oNe hr) (s_ne hK) (b_look (i := 14)) (toB (n_e (n_lst a_nil)))) (e_binB op_addAll (s_add hK) (toB (e_ix hK (b_look (i := 3)) (e_ix hK (b_look (i := 14)) e_int))) (toB (e_tup (a_cons (e_bi (cr_sumA rfl) (s_sumA hK) fx.f_sum (by kernel_rfl) (ab_cons (toB (n_e (n_lc [("one", 10), ("many", 19)] rfl hN (i_of hK (e_sl hK (b_look (i := 3)) p_no (p_at (e_ix hK (b_look (i := 14)) e_int)))) (blkOk_by (by kernel_rfl)) (fun _ _ _ _ _ => (g_tup hK rfl (gs_cons (g_name hN) (gs_cons (g_name hN) gs_nil)))) (fun _ _ _ _ _ => t_yes) (fun _ _ _ _ _ => (e_var (i := 19)))))) ab_nil)) a_nil)))) e_non))) (ss_one (s_ret e_bl)) ss_nil)))))))))))))))))))))))))
    (ss_one (s_ret (e_call0 (z__law_plain fx) hr takes_fn (hk := by omega)))))
end
end Z

namespace Z
open PySem PySem.Spec PyProof.Rows L2
def ddL : List He.DefD := [dd "check_text" (top 5), dd "runs" (top 6), dd "from_runs" (top 7), dd "told_runs" (top 8), dd "read_runs" (top 9), dd "packs" (top 10), dd "others" (top 11), dd "from_packs" (top 12), dd "size_of" (top 13), dd "gaps_of" (top 14), dd "bit_runs" (top 15), dd "from_bit_runs" (top 16), dd "longest" (top 17), dd "saved" (top 18), dd "_law_dice" (top 20), dd "_law_roll" (top 21), dd "_law_rounds" (top 22), dd "_law_told" (top 23), dd "_law_text" (top 24), dd "_law_runs" (top 25), dd "_law_read" (top 26), dd "_law_cut" (top 27), dd "_law_packs" (top 28), dd "_law_plain" (top 29), dd "law" (top 30)]
def fa_0 : List He.Fa := [.glo "check_text", .glo "runs", .glo "from_runs", .glo "told_runs", .glo "read_runs", .glo "packs", .glo "others", .glo "from_packs", .glo "size_of", .glo "gaps_of", .glo "bit_runs", .glo "from_bit_runs", .glo "longest", .glo "saved", .glo "_law_dice", .glo "_law_roll", .glo "_law_rounds", .glo "_law_told", .glo "_law_text", .glo "_law_runs", .glo "_law_read", .glo "_law_cut", .glo "_law_packs", .glo "_law_plain", .glo "law", .free "abs", .free "any", .free "enumerate", .free "int", .free "len"]
def fa_1 : List He.Fa := [.free "list", .free "max", .free "min", .free "range", .free "str", .free "sum", .free "tuple", .int "MOST_TEXT" 400, .glo "RunError", .exc "RunError", .exm "RunError" "RunError" true]
def faL : List He.Fa := fa_0 ++ fa_1
def tfL : List He.Defn := [("from_runs", none), ("told_runs", none), ("size_of", none), ("gaps_of", none), ("bit_runs", none), ("from_bit_runs", none), ("_law_plain", none), ("law", none)]
def tlK (K : PySem.W.Frag) : List (Addr × Str) := [((He.cT K ("from_runs", none)).2, "from_runs" ++ ".<locals>." ++ "<genexpr>"), ((He.cT K ("told_runs", none)).2, "told_runs" ++ ".<locals>." ++ "<genexpr>"), ((He.cT K ("size_of", none)).2, "size_of" ++ ".<locals>." ++ "<genexpr>"), ((He.cT K ("gaps_of", none)).2, "gaps_of" ++ ".<locals>." ++ "<genexpr>"), ((He.cT K ("bit_runs", none)).2, "bit_runs" ++ ".<locals>." ++ "<genexpr>"), ((He.cT K ("from_bit_runs", none)).2, "from_bit_runs" ++ ".<locals>." ++ "<genexpr>"), ((He.cT K ("_law_plain", none)).2, "_law_plain" ++ ".<locals>." ++ "<lambda>"), ((He.cT K ("law", none)).2, "law" ++ ".<locals>." ++ "<lambda>")]
def caK (K : PySem.W.Frag) : Nat → Addr := fun n => match n with
  | 1 => He.ga K "RunError"
  | _ => 0
def exL (K : PySem.W.Frag) : Bool := uniq (tlK K)
def glK (K : PySem.W.Frag) : Gl := ⟨K, caK K, tlK K, lamTab⟩
section
variable {P : Program} {w : World} {K : PySem.W.Frag} {mg : Str → Option Value} {base h : Heap}
theorem fx_of (X : K.In h) (N : h.Ns mainGlobals mg) (c : He.SaysX faL ddL [] tfL exL w h K) (B : ∀ p ∈ tfL, LamX.TabB base mg (He.cT K p).1 (He.cT K p).2) : Fx P w K mg base (glK K) where
  hK := rfl
  d_check_text := defAt X N c 0 0 rfl rfl
  d_runs := defAt X N c 1 1 rfl rfl
  d_from_runs := defTab (G := glK K) X N c B c.more 2 2 0 0 rfl rfl rfl rfl
  d_told_runs := defTab (G := glK K) X N c B c.more 3 3 1 1 rfl rfl rfl rfl
  d_read_runs := defAt X N c 4 4 rfl rfl
  d_packs := defAt X N c 5 5 rfl rfl
  d_others := defAt X N c 6 6 rfl rfl
  d_from_packs := defAt X N c 7 7 rfl rfl
  d_size_of := defTab (G := glK K) X N c B c.more 8 8 2 2 rfl rfl rfl rfl
  d_gaps_of := defTab (G := glK K) X N c B c.more 9 9 3 3 rfl rfl rfl rfl
  d_bit_runs := defTab (G := glK K) X N c B c.more 10 10 4 4 rfl rfl rfl rfl
  d_from_bit_runs := defTab (G := glK K) X N c B c.more 11 11 5 5 rfl rfl rfl rfl
  d_longest := defAt X N c 12 12 rfl rfl
  d_saved := defAt X N c 13 13 rfl rfl
  d__law_dice := defAt X N c 14 14 rfl rfl
  d__law_roll := defAt X N c 15 15 rfl rfl
  d__law_rounds := defAt X N c 16 16 rfl rfl
  d__law_told := defAt X N c 17 17 rfl rfl
  d__law_text := defAt X N c 18 18 rfl rfl
  d__law_runs := defAt X N c 19 19 rfl rfl
  d__law_read := defAt X N c 20 20 rfl rfl
  d__law_cut := defAt X N c 21 21 rfl rfl
  d__law_packs := defAt X N c 22 22 rfl rfl
  d__law_plain := defTab (G := glK K) X N c B c.more 23 23 6 6 rfl rfl rfl rfl
  d_law := defTab (G := glK K) X N c B c.more 24 24 7 7 rfl rfl rfl rfl
  f_abs := freeAt X N c 25 rfl
  f_any := freeAt X N c 26 rfl
  f_enumerate := freeAt X N c 27 rfl
  f_int := freeAt X N c 28 rfl
  f_len := freeAt X N c 29 rfl
  f_list := freeAt X N c 30 rfl
  f_max := freeAt X N c 31 rfl
  f_min := freeAt X N c 32 rfl
  f_range := freeAt X N c 33 rfl
  f_str := freeAt X N c 34 rfl
  f_sum := freeAt X N c 35 rfl
  f_tuple := freeAt X N c 36 rfl
  c_MOST_TEXT := intAt X N c 37 rfl
  x_RunError := excAt X N c 38 39 rfl rfl rfl
  lam := rfl
  sub := fun n b e => by
    unfold subE at e
    split at e
    · cases e
      exact He.exm_ok (fact_at c 40 rfl)
    · cases e
end
theorem tl_in (K : PySem.W.Frag) : ∀ t ∈ (glK K).tl, ∃ p ∈ tfL, t.1 = (He.cT K p).2 := by
  intro t ht
  have h2 : t ∈ tlK K := ht
  simp only [tlK, List.mem_cons, List.not_mem_nil, or_false] at h2
  rcases h2 with rfl | rfl | rfl | rfl | rfl | rfl | rfl | rfl
  · exact ⟨("from_runs", none), by simp [tfL], rfl⟩
  · exact ⟨("told_runs", none), by simp [tfL], rfl⟩
  · exact ⟨("size_of", none), by simp [tfL], rfl⟩
  · exact ⟨("gaps_of", none), by simp [tfL], rfl⟩
  · exact ⟨("bit_runs", none), by simp [tfL], rfl⟩
  · exact ⟨("from_bit_runs", none), by simp [tfL], rfl⟩
  · exact ⟨("_law_plain", none), by simp [tfL], rfl⟩
  · exact ⟨("law", none), by simp [tfL], rfl⟩
end Z

namespace Z
open PySem PySem.Spec L2
/-! the plain law: the draws -/
/-- the heap holds one box of three whole numbers -/
def Dc (h : Hc) : Prop := ∃ a b c : Int, h = [.box (.lst [.int a, .int b, .int c])]
theorem roll_eq (a b c m : Int) (hm : 0 < m) (hM : m ≤ 100000000) : m__law_roll [.ref 0, .int m] [.box (.lst [.int a, .int b, .int c])] =
    if c = 2 ∨ (c = 1 ∧ 0 < a) then .ok (.int (a.fmod m)) [.box (.lst [.int (a.fdiv m), .int b, .int c])]
    else .ok (.int ((((a * 48271 + b * 69621 + 11).fmod 2147483647).fdiv 7).fmod m)) [.box (.lst [.int ((a * 48271 + b * 69621 + 11).fmod 2147483647), .int (b + 1), .int 0])] := by
  show (b__law_roll mBad [.v (.ref 0), .v (.int m), .u] [.box (.lst [.int a, .int b, .int c])]).toR = _
  have h1 : m ≠ 0 := by omega
  have h2 : m.natAbs < 1073741824 := by omega
  have h3 : ¬ 100000000 < m := by omega
  by_cases e1 : c = 2
  · subst e1
    simp [b__law_roll, sSeq, sIf, tOrM, tAndM, tB1, eBin, eLook, eVar, eC, opIx, opGt, opAdd, opMul, unbox, atI, ixN, opEq, pl, D.eqv, sSet, opMod, opDiv, eBi, bInt, aCons, aNil, sPut, held, isL, putAt, put, sRet, O.toR, sNx, D.nl, nls, opCmp, h1, h2, h3]
  · by_cases e2 : c = 1 ∧ 0 < a
    · obtain ⟨rfl, e3⟩ := e2
      simp [b__law_roll, sSeq, sIf, tOrM, tAndM, tB1, eBin, eLook, eVar, eC, opIx, opGt, opAdd, opMul, unbox, atI, ixN, opEq, pl, D.eqv, sSet, opMod, opDiv, eBi, bInt, aCons, aNil, sPut, held, isL, putAt, put, sRet, O.toR, sNx, D.nl, nls, opCmp, h1, h2, h3, e3]
    · have e4 : ¬ (c = 2 ∨ (c = 1 ∧ 0 < a)) := fun z => z.elim e1 e2
      rw [if_neg e4]
      by_cases e5 : c = 1
      · have e6 : ¬ 0 < a := fun z => e2 ⟨e5, z⟩
        simp [b__law_roll, sSeq, sIf, tOrM, tAndM, tB1, eBin, eLook, eVar, eC, opIx, opGt, opAdd, opMul, unbox, atI, ixN, opEq, pl, D.eqv, sSet, opMod, opDiv, eBi, bInt, aCons, aNil, sPut, held, isL, putAt, put, sRet, O.toR, sNx, D.nl, nls, opCmp, h1, h2, h3, e1, e5, e6]
      · simp [b__law_roll, sSeq, sIf, tOrM, tAndM, tB1, eBin, eLook, eVar, eC, opIx, opGt, opAdd, opMul, unbox, atI, ixN, opEq, pl, D.eqv, sSet, opMod, opDiv, eBi, bInt, aCons, aNil, sPut, held, isL, putAt, put, sRet, O.toR, sNx, D.nl, nls, opCmp, h1, h2, h3, e1, e5]
theorem fmod_in {a m : Int} (hm : 0 < m) : 0 ≤ a.fmod m ∧ a.fmod m < m := ⟨Int.fmod_nonneg_of_pos a hm, Int.fmod_lt_of_pos a hm⟩
theorem roll_ok {h : Hc} {m : Int} (d : Dc h) (hm : 0 < m) (hM : m ≤ 100000000) : ∃ v h', m__law_roll [.ref 0, .int m] h = .ok (.int v) h' ∧ 0 ≤ v ∧ v < m ∧ Dc h' := by
  obtain ⟨a, b, c, rfl⟩ := d
  rw [roll_eq a b c m hm hM]
  split
  · exact ⟨_, _, rfl, (fmod_in hm).1, (fmod_in hm).2, _, _, _, rfl⟩
  · exact ⟨_, _, rfl, (fmod_in hm).1, (fmod_in hm).2, _, _, _, rfl⟩
theorem loop_ok {t : Tg} {b : SM} (P : Nat → Rho → Hc → Prop) : ∀ (ds : List D) (i : Nat) (ρ : Rho) (h : Hc), P i ρ h →
    (∀ j d ρ h, ds[j]? = some d → P (i + j) ρ h → ∃ ρ1, bindD t d ρ = some ρ1 ∧ ∃ ρ' h', (b ρ1 h = .nx ρ' h' ∨ b ρ1 h = .ct ρ' h') ∧ P (i + j + 1) ρ' h') → ∃ ρ' h', loopM t b ds ρ h = .nx ρ' h' ∧ P (i + ds.length) ρ' h'
  | [], i, ρ, h, p, _ => ⟨ρ, h, rfl, p⟩
  | d :: ds, i, ρ, h, p, st => by
    obtain ⟨ρ1, e1, ρ2, h2, e2, p2⟩ := st 0 d ρ h rfl p
    obtain ⟨ρ3, h3, e3, p3⟩ := loop_ok P ds (i + 1) ρ2 h2 p2 fun j d' ρ' h' e q => by
      have := st (j + 1) d' ρ' h' e (by rw [show i + (j + 1) = i + 1 + j by omega]; exact q)
      rw [show i + (j + 1) + 1 = i + 1 + j + 1 by omega] at this
      exact this
    refine ⟨ρ3, h3, ?_, by rw [List.length_cons, show i + (ds.length + 1) = i + 1 + ds.length by omega]; exact p3⟩
    rcases e2 with e2 | e2
    · simp only [loopM, e1, e2, e3]
    · simp only [loopM, e1, e2, e3]
theorem roll_call {h : Hc} {m : Int} (d : Dc h) (hm : 0 < m) (hM : m ≤ 100000000) : ∃ v h', m__law_roll [.ref 0, .int m] h = .ok (.int v) h' ∧ 0 ≤ v ∧ v < m ∧ Dc h' := roll_ok d hm hM
theorem repL_len {α : Type} (s : List α) (n : Nat) : (repL s n).length = n * s.length := by
  unfold repL
  rw [Int.toNat_natCast]
  induction n with
  | zero => simp
  | succ n ih => rw [List.replicate_succ, List.flatten_cons, List.length_append, ih, Nat.succ_mul, Nat.add_comm]
theorem repL_mem {α : Type} {s : List α} {n : Int} {x : α} (h : x ∈ repL s n) : x ∈ s := by
  unfold repL at h
  obtain ⟨l, hl, hx⟩ := List.mem_flatten.mp h
  rw [(List.mem_replicate.mp hl).2] at hx
  exact hx
theorem rngL_in : ∀ {lo : Int} {n i : Nat} {d : D}, (rngL lo n)[i]? = some d → d = .int (lo + i) := fun e => (rngL_get e).2
/-- a text was drawn -/
theorem text_ok {h : Hc} {sg : List Nat} {m : Int} (d : Dc h) (h0 : 0 < sg.length) (h1 : sg.length ≤ 1000) (hm : 0 < m) (hM : m ≤ 1000) :
    ∃ l h', m__law_text [.ref 0, .str sg, .int m] h = .ok (.str l) h' ∧ l.length ≤ 4 * (m.toNat - 1) ∧ (∀ c ∈ l, c ∈ sg) ∧ Dc h' := by
  obtain ⟨v, h2, e2, v0, v1, d2⟩ := roll_ok d hm (by omega)
  show ∃ l h', (b__law_text [.v (.ref 0), .v (.str sg), .v (.int m), .u, .u] h).toR = .ok (.str l) h' ∧ _
  have st := loop_ok (t := .n 4) (b := (sSet 3 (eBin opAdd (eLook 3) (eBin opMul (eBin opIx (eLook 1) (eCall 2 m__law_roll (aCons (eVar 0) (aCons (eBi bLen (aCons (eLook 1) aNil)) aNil)))) (eBin opAdd (eC (.int 1)) (eBin opMul (eCall 2 m__law_roll (aCons (eVar 0) (aCons (eC (.int 4)) aNil))) (eBi bInt (aCons (eBin opEq (eCall 2 m__law_roll (aCons (eVar 0) (aCons (eC (.int 3)) aNil))) (eC (.int 0))) aNil))))))))
    (fun j ρ h => Dc h ∧ ∃ l x, ρ = [.v (.ref 0), .v (.str sg), .v (.int m), .v (.str l), x] ∧ l.length ≤ 4 * j ∧ ∀ c ∈ l, c ∈ sg) (rngL 0 v.toNat) 0 [.v (.ref 0), .v (.str sg), .v (.int m), .v (.str []), .u] h2 ⟨d2, [], .u, rfl, by simp, by simp⟩ ?_
  · obtain ⟨ρ', h3, e3, d3, l, x, rfl, hl, hc⟩ := st
    refine ⟨l, h3, ?_, ?_, hc, d3⟩
    · have b1 : -(2 ^ 62) ≤ v ∧ v < 2 ^ 62 := by omega
      simp only [b__law_text, sSeq, sSet, eC, R.toS_ok, sFor, iR1, aCons, aNil, eCall, eVar, List.getElem?_cons_zero, List.getElem?_cons_succ, List.set_cons_succ, List.set_cons_zero, R.bind_ok, List.length_cons, List.length_nil, Nat.reduceAdd, if_true, e2, b1]
      rw [if_pos (by simp)]
      simp only [R.toS_ok, R.bind_ok, e3]
      rfl
    · rw [rngL_len] at hl; omega
  · rintro j dd ρ h3 e ⟨d3, l, x, rfl, hl, hc⟩
    obtain ⟨k, h4, e4, k0, k1, d4⟩ := roll_ok (m := sg.length) d3 (by omega) (by omega)
    obtain ⟨p, h5, e5, p0, p1, d5⟩ := roll_ok (m := 4) d4 (by omega) (by omega)
    obtain ⟨q, h6, e6, q0, q1, d6⟩ := roll_ok (m := 3) d5 (by omega) (by omega)
    obtain ⟨c, hcg⟩ : ∃ c, sg[k.toNat]? = some c := ⟨_, List.getElem?_eq_getElem (by omega)⟩
    have hat : atI sg k = some c := by
      unfold atI ixN
      rw [if_pos k0, if_pos k1]
      exact hcg
    refine ⟨_, rfl, ?_⟩
    have hs : sg.length ≤ 16777216 := by omega
    have hj : j < v.toNat := by
      have := (List.getElem?_eq_some_iff.mp e).1
      rw [rngL_len] at this
      exact this
    have step : ∀ n : Int, 1 ≤ n → n ≤ 4 → (l.length + (repL [c] n).length ≤ 16777216) ∧ (l ++ repL [c] n).length ≤ 4 * (0 + j + 1) ∧ ∀ y ∈ l ++ repL [c] n, y ∈ sg := fun n n0 n1 => by
      obtain ⟨k', rfl⟩ : ∃ k' : Nat, n = k' := ⟨n.toNat, by omega⟩
      rw [List.length_append, repL_len]
      simp only [List.length_cons, List.length_nil]
      refine ⟨by omega, by omega, fun y hy => ?_⟩
      rcases List.mem_append.mp hy with hy | hy
      · exact hc y hy
      · have := repL_mem hy
        rw [List.mem_singleton.mp this]
        exact List.mem_of_getElem? hcg
    by_cases hq : q = 0
    · have b2 : -1048576 ≤ 1 + p ∧ 1 + p ≤ 16777216 := by omega
      obtain ⟨g1, g2, g3⟩ := step (1 + p) (by omega) (by omega)
      refine ⟨[.v (.ref 0), .v (.str sg), .v (.int m), .v (.str (l ++ repL [c] (1 + p))), .v dd], h6, .inl ?_, d6, _, _, rfl, g2, g3⟩
      simp [sSet, eBin, eLook, eVar, eC, eCall, aCons, aNil, eBi, bLen, bInt, opIx, opAdd, opMul, opEq, unbox, pl, D.eqv, e4, e5, e6, hat, hs, hq, b2, g1]
    · obtain ⟨g1, g2, g3⟩ := step 1 (by omega) (by omega)
      refine ⟨[.v (.ref 0), .v (.str sg), .v (.int m), .v (.str (l ++ repL [c] 1)), .v dd], h6, .inl ?_, d6, _, _, rfl, g2, g3⟩
      simp [sSet, eBin, eLook, eVar, eC, eCall, aCons, aNil, eBi, bLen, bInt, opIx, opAdd, opMul, opEq, unbox, pl, D.eqv, e4, e5, e6, hat, hs, hq, g1]
end Z

namespace Z
open PySem PySem.Spec L2
/-! the plain law: the same sign told once -/
def rowD (r : Nat × Int) : D := .tup [.str [r.1], .int r.2]
def stepR (acc : List (Nat × Int)) (s : Nat) : List (Nat × Int) := match acc.getLast? with
  | some (c, k) => if c = s then acc.dropLast ++ [(s, k + 1)] else acc ++ [(s, 1)]
  | none => [(s, 1)]
def runsF (l : List Nat) : List (Nat × Int) := l.foldl stepR []
theorem pls_rows (n : Nat) : ∀ (acc : List (Nat × Int)), pls (n + 1) (acc.map rowD) = true
  | [] => rfl
  | r :: acc => by
    show (pl (n + 1) (rowD r) && pls (n + 1) (acc.map rowD)) = true
    rw [pls_rows n acc]
    rfl
theorem atI_end {α : Type} (xs : List α) (x : α) : atI (xs ++ [x]) (-1) = some x := by
  unfold atI ixN
  have e : ((xs ++ [x]).length : Int) = xs.length + 1 := by rw [List.length_append]; rfl
  rw [if_neg (by omega), if_pos (by omega)]
  show (xs ++ [x])[(-1 + ((xs ++ [x]).length : Int)).toNat]? = some x
  rw [e, show (-1 + ((xs.length : Int) + 1)).toNat = xs.length by omega]
  simp
theorem ixN_end (n : Nat) : ixN (n + 1) (-1) = some n := by
  unfold ixN
  rw [if_neg (by omega), if_pos (by omega)]
  congr 1
  omega
theorem stepR_end (acc : List (Nat × Int)) (c s : Nat) (k : Int) : stepR (acc ++ [(c, k)]) s = if c = s then acc ++ [(s, k + 1)] else acc ++ [(c, k)] ++ [(s, 1)] := by
  unfold stepR
  simp
theorem stepR_len (acc : List (Nat × Int)) (s : Nat) : (stepR acc s).length ≤ acc.length + 1 := by
  rcases List.eq_nil_or_concat acc with rfl | ⟨i, ⟨c, k⟩, rfl⟩
  · simp [stepR]
  · rw [List.concat_eq_append, stepR_end]
    split <;> simp
theorem set_end {α : Type} (xs : List α) (x y : α) : (xs ++ [x]).set xs.length y = xs ++ [y] := by simp
/-- a loop that computes a fold -/
theorem loop_fold {α β : Type} {t : Tg} {b : SM} (enc : α → D) (rho : β → Sl → Rho) (f : β → α → β) (ok : Nat → β → Prop) (h : Hc) : ∀ (xs : List α) (i : Nat) (s : β) (x : Sl), ok i s →
    (∀ j a s x, xs[j]? = some a → ok (i + j) s → ∃ x' ρ1, bindD t (enc a) (rho s x) = some ρ1 ∧ (b ρ1 h = .nx (rho (f s a) x') h ∨ b ρ1 h = .ct (rho (f s a) x') h) ∧ ok (i + j + 1) (f s a)) → ∃ x', loopM t b (xs.map enc) (rho s x) h = .nx (rho (xs.foldl f s) x') h ∧ ok (i + xs.length) (xs.foldl f s)
  | [], i, s, x, o, _ => ⟨x, rfl, o⟩
  | a :: xs, i, s, x, o, st => by
    obtain ⟨x1, ρ1, e1, e2, o2⟩ := st 0 a s x rfl o
    obtain ⟨x3, e3, o3⟩ := loop_fold enc rho f ok h xs (i + 1) (f s a) x1 o2 fun j a' s' x' e q => by
      have := st (j + 1) a' s' x' e (by rw [show i + (j + 1) = i + 1 + j by omega]; exact q)
      rw [show i + (j + 1) + 1 = i + 1 + j + 1 by omega] at this
      exact this
    refine ⟨x3, ?_, by rw [List.length_cons, show i + (xs.length + 1) = i + 1 + xs.length by omega]; exact o3⟩
    rcases e2 with e2 | e2
    · simp only [List.map_cons, loopM, e1, e2, e3, List.foldl_cons]
    · simp only [List.map_cons, loopM, e1, e2, e3, List.foldl_cons]
theorem nots_nil (a : D) (l : List D) : eqvs (l ++ [a]) [] = false := by cases l <;> rfl
theorem rowD_mk (d : Nat) (k : Int) : rowD (d, k) = .tup [.str [d], .int k] := rfl
theorem at0 {α : Type} (a : α) (l : List α) : atI (a :: l) 0 = some a := by
  unfold atI ixN
  rw [if_pos (by omega), if_pos (by simp)]
  rfl
theorem at1 {α : Type} (a b : α) (l : List α) : atI (a :: b :: l) 1 = some b := by
  unfold atI ixN
  rw [if_pos (by omega), if_pos (by simp only [List.length_cons]; omega)]
  rfl
theorem cut_end {α : Type} (xs : List α) (x : α) : cutL (xs ++ [x]) none (some (-1)) = xs := by
  have e : HT.sIx (xs ++ [x]).length (xs ++ [x]).length (some (-1)) = xs.length := by
    simp [HT.sIx]
    try omega
  unfold cutL
  rw [e]
  simp [HT.sIx]
def LB : SM := (sSet 1 (eIf (tAndM (tB1 (eBin opNe (eLook 1) (eLst aNil))) (tB1 (eBin opEq (eBin opIx (eBin opIx (eLook 1) (eNeg (eC (.int 1)))) (eC (.int 0))) (eLook 2)))) (eBin opAdd (eSl (eLook 1) pNo (pAt (eNeg (eC (.int 1))))) (eLst (aCons (eTup (aCons (eVar 2) (aCons (eBin opAdd (eBin opIx (eBin opIx (eLook 1) (eNeg (eC (.int 1)))) (eC (.int 1))) (eC (.int 1))) aNil))) aNil))) (eBin opAdd (eLook 1) (eLst (aCons (eTup (aCons (eVar 2) (aCons (eC (.int 1)) aNil))) aNil)))))
theorem lawruns_eq (l : List Nat) (h : Hc) (hl : l.length ≤ 1000) : m__law_runs [.str l] h = .ok (.lst ((runsF l).map rowD)) h := by
  show (b__law_runs [.v (.str l), .u, .u] h).toR = _
  have st : ∀ j c s x, l[j]? = some c → s.length ≤ 0 + j → ∃ x' ρ1, bindD (.n 2) (.str [c]) [.v (.str l), .v (.lst (s.map rowD)), x] = some ρ1 ∧ (LB ρ1 h = .nx [.v (.str l), .v (.lst ((stepR s c).map rowD)), x'] h ∨ LB ρ1 h = .ct [.v (.str l), .v (.lst ((stepR s c).map rowD)), x'] h) ∧ (stepR s c).length ≤ 0 + j + 1 := by
    rintro j c s x ec hs
    have hj := (List.getElem?_eq_some_iff.mp ec).1
    rcases List.eq_nil_or_concat s with rfl | ⟨i, ⟨d, k⟩, rfl⟩
    · refine ⟨.v (.str [c]), _, rfl, .inl ?_, by have := stepR_len [] c; simp at this ⊢; omega⟩
      simp [LB, sSet, eIf, tAndM, tB1, eBin, eLook, eLst, aNil, opNe, unbox, pl, pls, D.eqv, eqvs, opAdd, aCons, eTup, eVar, eC, stepR, rowD]
    · rw [List.concat_eq_append] at hs ⊢
      refine ⟨.v (.str [c]), _, rfl, .inl ?_, by have := stepR_len (i ++ [(d, k)]) c; simp at this hs ⊢; omega⟩
      rw [stepR_end]
      have hp := pls_rows 10 (i ++ [(d, k)])
      have hq := atI_end (i.map rowD) (rowD (d, k))
      have hz : (i.map rowD).length + 1 ≤ 16777216 := by
        have : i.length + 1 ≤ 0 + j := by simpa using hs
        rw [List.length_map]; omega
      have hc := cut_end (i.map rowD) (rowD (d, k))
      simp only [List.map_append, List.map_cons, List.map_nil, rowD_mk] at hp hq hc ⊢
      by_cases hd : d = c
      · subst hd
        simp [LB, sSet, eIf, tAndM, tB1, eBin, eLook, eLst, aNil, opNe, opEq, unbox, pl, pls, D.eqv, nots_nil, opAdd, aCons, eTup, eVar, eC, eNeg, opIx, hp, hq, at0, at1, eSl, pNo, pAt, slOp, hc, rowD_mk]
        rw [if_pos (by have : i.length + 1 ≤ 0 + j := by simpa using hs
                       omega)]
        rfl
      · simp [LB, sSet, eIf, tAndM, tB1, eBin, eLook, eLst, aNil, opNe, opEq, unbox, pl, pls, D.eqv, nots_nil, opAdd, aCons, eTup, eVar, eC, eNeg, opIx, hp, hq, at0, at1, hd, rowD_mk]
        rw [if_pos (by have : i.length + 1 ≤ 0 + j := by simpa using hs
                       omega)]
        rfl
  obtain ⟨x', e, hn⟩ := loop_fold (t := .n 2) (b := LB)
    (fun c => .str [c]) (fun (s : List (Nat × Int)) x => [.v (.str l), .v (.lst (s.map rowD)), x]) stepR (fun j s => s.length ≤ j) h l 0 [] .u (by simp) st
  simp only [Nat.zero_add] at hn
  simp only [List.map_nil] at e
  unfold b__law_runs
  show ((sSeq (sSet 1 (eLst aNil)) (sSeq (sFor (.n 2) (iOf (eVar 0)) LB) (sRet (eVar 1)))) [.v (.str l), .u, .u] h).toR = _
  simp [sSeq, sSet, eLst, aNil, sFor, iOf, eVar, itemsD, e, sRet, O.toR, runsF]
end Z

namespace Z
open PySem PySem.Spec L2
theorem check_ok (l : List Nat) (h : Hc) (hl : l.length ≤ 400) : m_check_text [.str l] h = .ok .non h := by
  show (b_check_text [.v (.str l)] h).toR = _
  have h1 : l.length ≤ 16777216 := by omega
  have h2 : ¬ (400 : Int) < l.length := by omega
  simp [b_check_text, sIf, tB1, eBin, eBi, bLen, aCons, aNil, eLook, eC, opCmp, unbox, h1, h2, sNx, O.toR]
def RB : SM := (sIf (tAndM (tB1 (eBin opNe (eLook 1) (eLst aNil))) (tB1 (eBin opEq (eBin opIx (eBin opIx (eLook 1) (eNeg (eC (.int 1)))) (eC (.int 0))) (eLook 2)))) (sPut 1 (eNeg (eC (.int 1))) (eTup (aCons (eVar 2) (aCons (eBin opAdd (eBin opIx (eBin opIx (eLook 1) (eNeg (eC (.int 1)))) (eC (.int 1))) (eC (.int 1))) aNil)))) (sWm wAppend 1 (aCons (eTup (aCons (eVar 2) (aCons (eC (.int 1)) aNil))) aNil)))
theorem runs_eq (l : List Nat) (h : Hc) (hl : l.length ≤ 400) : m_runs [.str l] h = .ok (.tup ((runsF l).map rowD)) h := by
  show (b_runs [.v (.str l), .u, .u] h).toR = _
  have st : ∀ j c s x, l[j]? = some c → s.length ≤ 0 + j → ∃ x' ρ1, bindD (.n 2) (.str [c]) [.v (.str l), .o (.lst (s.map rowD)), x] = some ρ1 ∧ (RB ρ1 h = .nx [.v (.str l), .o (.lst ((stepR s c).map rowD)), x'] h ∨ RB ρ1 h = .ct [.v (.str l), .o (.lst ((stepR s c).map rowD)), x'] h) ∧ (stepR s c).length ≤ 0 + j + 1 := by
    rintro j c s x ec hs
    have hj := (List.getElem?_eq_some_iff.mp ec).1
    rcases List.eq_nil_or_concat s with rfl | ⟨i, ⟨d, k⟩, rfl⟩
    · refine ⟨.v (.str [c]), _, rfl, .inl ?_, by have := stepR_len [] c; simp at this ⊢; omega⟩
      simp [RB, sIf, tAndM, tB1, eBin, eLook, eLst, aNil, opNe, unbox, pl, pls, D.eqv, eqvs, aCons, eTup, eVar, eC, stepR, rowD, sWm, wAppend, mLst, held, isL, put]
    · rw [List.concat_eq_append] at hs ⊢
      refine ⟨.v (.str [c]), _, rfl, .inl ?_, by have := stepR_len (i ++ [(d, k)]) c; simp at this hs ⊢; omega⟩
      rw [stepR_end]
      have hp := pls_rows 10 (i ++ [(d, k)])
      have hq := atI_end (i.map rowD) (rowD (d, k))
      have hi : i.length + 1 ≤ 0 + j := by simpa using hs
      have hw : i.length + 1 < 16777216 := by omega
      have hx := ixN_end i.length
      have hs2 := set_end (i.map rowD) (rowD (d, k)) (rowD (c, k + 1))
      simp only [List.map_append, List.map_cons, List.map_nil, rowD_mk, List.length_map] at hp hq hs2 ⊢
      by_cases hd : d = c
      · subst hd
        simp [RB, sIf, tAndM, tB1, eBin, eLook, eLst, aNil, opNe, opEq, unbox, pl, pls, D.eqv, nots_nil, opAdd, aCons, eTup, eVar, eC, eNeg, opIx, hp, hq, at0, at1, rowD_mk, sPut, held, isL, putAt, put, hx, hs2]
      · simp [RB, sIf, tAndM, tB1, eBin, eLook, eLst, aNil, opNe, opEq, unbox, pl, pls, D.eqv, nots_nil, opAdd, aCons, eTup, eVar, eC, eNeg, opIx, hp, hq, at0, at1, hd, rowD_mk, sWm, wAppend, mLst, held, isL, put, hw]
  obtain ⟨x', e, hn⟩ := loop_fold (t := .n 2) (b := RB) (fun c => .str [c]) (fun (s : List (Nat × Int)) x => [.v (.str l), .o (.lst (s.map rowD)), x]) stepR (fun j s => s.length ≤ j) h l 0 [] .u (by simp) st
  simp only [Nat.zero_add] at hn
  simp only [List.map_nil] at e
  unfold b_runs
  have hc := check_ok l h hl
  show ((sSeq (sDo (eCall 1 m_check_text (aCons (eVar 0) aNil))) (sSeq (sSetN 1 (eLst aNil)) (sSeq (sFor (.n 2) (iOf (eVar 0)) RB) (sRet (eBi bTuple (aCons (eLook 1) aNil)))))) [.v (.str l), .u, .u] h).toR = _
  simp [sSeq, sDo, eCall, aCons, hc, sSetN, eLst, aNil, sFor, iOf, eVar, itemsD, e, sRet, O.toR, runsF, eBi, bTuple, eLook, unbox]
end Z

namespace Z
open PySem PySem.Spec L2
/-! the plain law: what the runs are -/
theorem runsF_snoc (l : List Nat) (c : Nat) : runsF (l ++ [c]) = stepR (runsF l) c := by
  unfold runsF
  rw [List.foldl_append]
  rfl
def spread (rs : List (Nat × Int)) : List Nat := rs.flatMap fun r => List.replicate r.2.toNat r.1
def total (rs : List (Nat × Int)) : Int := (rs.map (·.2)).sum
theorem spread_app (a b : List (Nat × Int)) : spread (a ++ b) = spread a ++ spread b := by unfold spread; rw [List.flatMap_append]
theorem total_app (a b : List (Nat × Int)) : total (a ++ b) = total a + total b := by unfold total; rw [List.map_append, List.sum_append]
theorem step_facts (acc : List (Nat × Int)) (c : Nat) (hp : ∀ r ∈ acc, 1 ≤ r.2) : (∀ r ∈ stepR acc c, 1 ≤ r.2) ∧ spread (stepR acc c) = spread acc ++ [c] ∧ total (stepR acc c) = total acc + 1 := by
  rcases List.eq_nil_or_concat acc with rfl | ⟨i, ⟨d, k⟩, rfl⟩
  · refine ⟨fun r hr => ?_, rfl, rfl⟩
    have : r = (c, 1) := by simpa [stepR] using hr
    rw [this]
    exact Int.le_refl 1
  · rw [List.concat_eq_append] at hp ⊢
    have hk : 1 ≤ k := hp (d, k) (by simp)
    rw [stepR_end]
    by_cases hd : d = c
    · subst hd
      rw [if_pos rfl, spread_app, spread_app, total_app, total_app]
      refine ⟨fun r hr => ?_, ?_, ?_⟩
      · rcases List.mem_append.mp hr with h | h
        · exact hp r (List.mem_append_left _ h)
        · rw [List.mem_singleton.mp h]
          show 1 ≤ k + 1
          omega
      · have e : (k + 1).toNat = k.toNat + 1 := by omega
        simp [spread, e, List.replicate_succ']
      · simp [total]
        omega
    · rw [if_neg hd, spread_app _ [(c, 1)], total_app _ [(c, 1)]]
      refine ⟨fun r hr => ?_, rfl, rfl⟩
      rcases List.mem_append.mp hr with h | h
      · exact hp r h
      · rw [List.mem_singleton.mp h]
        exact Int.le_refl 1
theorem runs_facts (l : List Nat) : (∀ r ∈ runsF l, 1 ≤ r.2) ∧ spread (runsF l) = l ∧ total (runsF l) = l.length := by
  suffices ∀ n (l : List Nat), l.length = n → (∀ r ∈ runsF l, 1 ≤ r.2) ∧ spread (runsF l) = l ∧ total (runsF l) = l.length from this _ l rfl
  intro n
  induction n with
  | zero =>
    intro l hl
    obtain rfl := List.length_eq_zero_iff.mp hl
    exact ⟨fun r hr => absurd hr (by simp [runsF]), rfl, rfl⟩
  | succ n ih =>
    intro l hl
    rcases List.eq_nil_or_concat l with rfl | ⟨i, c, rfl⟩
    · cases hl
    · rw [List.concat_eq_append] at hl ⊢
      obtain ⟨a, b, t⟩ := ih i (by rw [List.length_append] at hl; simpa using hl)
      obtain ⟨a2, b2, t2⟩ := step_facts (runsF i) c a
      rw [runsF_snoc]
      refine ⟨a2, by rw [b2, b], ?_⟩
      rw [t2, t, List.length_append]
      rfl
end Z

namespace Z
open PySem PySem.Spec L2
/-! the plain law: comprehensions and generator expressions over plain things -/
theorem gen_map {α : Type} {t : Tg} {em : EM} {ρ : Rho} (enc val : α → D) (h : Hc) : ∀ (xs : List α), (∀ a ∈ xs, ∃ ρ1, bindD t (enc a) ρ = some ρ1 ∧ em ρ1 h = .ok (val a) h) → genL t tYesM em ρ (xs.map enc) h = (xs.map fun a => (val a, h), some h)
  | [], _ => rfl
  | a :: xs, st => by
    obtain ⟨ρ1, e1, e2⟩ := st a List.mem_cons_self
    have ih := gen_map enc val h xs fun b hb => st b (List.mem_cons_of_mem _ hb)
    simp only [List.map_cons, genL, e1, tYesM, e2, ih]
theorem lc_map {α : Type} {t : Tg} {em : EM} {ρ : Rho} (enc val : α → D) (h : Hc) : ∀ (xs : List α), (∀ a ∈ xs, ∃ ρ1, bindD t (enc a) ρ = some ρ1 ∧ em ρ1 h = .ok (val a) h) → lcLoop t tYesM em ρ (xs.map enc) h = .ok (xs.map val) h
  | [], _ => rfl
  | a :: xs, st => by
    obtain ⟨ρ1, e1, e2⟩ := st a List.mem_cons_self
    have ih := lc_map enc val h xs fun b hb => st b (List.mem_cons_of_mem _ hb)
    simp [lcLoop, e1, tYesM, e2, ih, R.nox]
theorem any_map {α : Type} (p : α → Bool) (h : Hc) : ∀ xs : List α, anyC (xs.map fun a => (D.bl (p a), h)) h = .ok (.bl (xs.any p)) h
  | [] => rfl
  | a :: xs => by
    cases e : p a with
    | true => simp [anyC, e]
    | false => simp [anyC, e, any_map p h xs]
theorem sum_map {α : Type} (f : α → Int) (h : Hc) : ∀ (xs : List α) (acc : Int), 0 ≤ acc → (∀ a ∈ xs, 0 ≤ f a) → acc + (xs.map f).sum < 2 ^ 63 → sumC acc (xs.map fun a => (D.int (f a), h)) h = .ok (.int (acc + (xs.map f).sum)) h
  | [], acc, _, _, _ => by simp [sumC]
  | a :: xs, acc, h0, hf, hb => by
    have f0 := hf a List.mem_cons_self
    have s0 : 0 ≤ (xs.map f).sum := by
      have : ∀ ys : List α, (∀ b ∈ ys, 0 ≤ f b) → 0 ≤ (ys.map f).sum := fun ys => by
        induction ys with
        | nil => intro _; exact Int.le_refl 0
        | cons y ys ih =>
          intro hy
          rw [List.map_cons, List.sum_cons]
          have := hy y List.mem_cons_self
          have := ih fun b hb => hy b (List.mem_cons_of_mem _ hb)
          omega
      exact this xs fun b hb => hf b (List.mem_cons_of_mem _ hb)
    rw [List.map_cons, List.sum_cons] at hb
    have c : (inLong (f a) && inLong (acc + f a)) = true := by
      unfold inLong
      simp only [Bool.and_eq_true, decide_eq_true_eq]
      omega
    simp only [List.map_cons, sumC, List.sum_cons]
    rw [if_pos c, sum_map f h xs (acc + f a) (by omega) (fun b hb => hf b (List.mem_cons_of_mem _ hb)) (by omega), Int.add_assoc]
end Z

namespace Z
open PySem PySem.Spec L2
/-! the plain law: from_runs -/
theorem from_any (rs : List (Nat × Int)) (h : Hc) (hl : rs.length ≤ 1000) :
    eAny (.t [(.n 1), (.n 2)]) [1, 2] (iOf (eVar 0)) tYesM (eOr (eBin opNe (eBi bLen (aCons (eLook 1) aNil)) (eC (.int 1))) (eBin opLt (eLook 2) (eC (.int 1)))) [.v (.lst (rs.map rowD)), .u, .u] h = .ok (.bl (rs.any fun r => decide (r.2 < 1))) h := by
  have hl2 : rs.length ≤ 16777216 := by omega
  have g := gen_map (t := .t [(.n 1), (.n 2)]) (em := (eOr (eBin opNe (eBi bLen (aCons (eLook 1) aNil)) (eC (.int 1))) (eBin opLt (eLook 2) (eC (.int 1))))) (ρ := [.v (.lst (rs.map rowD)), .u, .u]) rowD (fun r => .bl (decide (r.2 < 1))) h rs fun r _ =>
    ⟨[.v (.lst (rs.map rowD)), .v (.str [r.1]), .v (.int r.2)], rfl, by simp [eOr, eBin, opNe, opCmp, eBi, bLen, aCons, aNil, eLook, eC, unbox, pl, D.eqv]⟩
  unfold eAny eGen
  simp [iOf, eVar, itemsD, wipeR, g, hl2, any_map]
theorem from_sum (rs : List (Nat × Int)) (h : Hc) (hl : rs.length ≤ 1000) (hp : ∀ r ∈ rs, 0 ≤ r.2) (ht : total rs < 2 ^ 62) :
    eSumG (.t [(.n 1), (.n 2)]) [1, 2] (iOf (eVar 0)) tYesM (eVar 2) [.v (.lst (rs.map rowD)), .u, .u] h = .ok (.int (total rs)) h := by
  have hl2 : rs.length ≤ 16777216 := by omega
  have g := gen_map (t := .t [(.n 1), (.n 2)]) (em := eVar 2) (ρ := [.v (.lst (rs.map rowD)), .u, .u]) rowD (fun r => .int r.2) h rs fun r _ =>
    ⟨[.v (.lst (rs.map rowD)), .v (.str [r.1]), .v (.int r.2)], rfl, by simp [eVar]⟩
  have s := sum_map (fun r : Nat × Int => r.2) h rs 0 (Int.le_refl 0) hp (by show 0 + total rs < _; omega)
  unfold eSumG eGen
  simp [iOf, eVar, itemsD, wipeR, g, hl2]
  rw [s]
  show R.ok (D.int (0 + total rs)) h = _
  rw [Int.zero_add]
end Z

namespace Z
open PySem PySem.Spec L2
/-! the plain law: texts joined, from_runs -/
theorem strs_map {α : Type} (f : α → List Nat) : ∀ xs : List α, strs? (xs.map fun a => D.str (f a)) = some (xs.map f)
  | [] => rfl
  | a :: xs => by simp [strs?, strs_map f xs]
theorem join_nil : ∀ ps : List (List Nat), TL.joinL [] ps = ps.flatten
  | [] => rfl
  | [p] => by simp [TL.joinL]
  | p :: q :: r => by
    have ih := join_nil (q :: r)
    simp only [TL.joinL, ih, List.flatten_cons, List.nil_append]
theorem rep_sign (c : Nat) (k : Int) : repL [c] k = List.replicate k.toNat c := by
  unfold repL
  induction k.toNat with
  | zero => rfl
  | succ n ih => rw [List.replicate_succ, List.flatten_cons, ih]; rfl
theorem spread_len : ∀ rs : List (Nat × Int), (∀ r ∈ rs, 0 ≤ r.2) → ((rs.map fun r => List.replicate r.2.toNat r.1).map List.length).sum = (total rs).toNat ∧ 0 ≤ total rs
  | [], _ => ⟨rfl, Int.le_refl 0⟩
  | r :: rs, h => by
    have h0 := h r List.mem_cons_self
    obtain ⟨a, b⟩ := spread_len rs fun x hx => h x (List.mem_cons_of_mem _ hx)
    have e : total (r :: rs) = r.2 + total rs := by simp [total]
    refine ⟨?_, by omega⟩
    rw [List.map_cons, List.map_cons, List.sum_cons, a, List.length_replicate, e]
    omega
theorem from_join (rs : List (Nat × Int)) (h : Hc) (hl : rs.length ≤ 1000) (hp : ∀ r ∈ rs, 0 ≤ r.2) (ht : total rs ≤ 400) :
    eM1 mJoin (eC (.str [])) (eLc (.t [(.n 1), (.n 2)]) [1, 2] (iOf (eVar 0)) tYesM (eBin opMul (eLook 1) (eLook 2))) [.v (.lst (rs.map rowD)), .u, .u] h = .ok (.str (spread rs)) h := by
  have hl2 : rs.length ≤ 16777216 := by omega
  obtain ⟨s1, s2⟩ := spread_len rs hp
  have each : ∀ r ∈ rs, r.2 ≤ 400 := fun r hr => by
    have : ∀ l : List (Nat × Int), (∀ x ∈ l, 0 ≤ x.2) → r ∈ l → r.2 ≤ total l := fun l => by
      induction l with
      | nil => intro _ z; cases z
      | cons x l ih =>
        intro hx hm
        have e : total (x :: l) = x.2 + total l := by simp [total]
        have p1 := hx x List.mem_cons_self
        have p2 := (spread_len l fun y hy => hx y (List.mem_cons_of_mem _ hy)).2
        rcases List.mem_cons.mp hm with rfl | hm
        · omega
        · have := ih (fun y hy => hx y (List.mem_cons_of_mem _ hy)) hm
          omega
    have := this rs hp hr
    omega
  have g := lc_map (t := .t [(.n 1), (.n 2)]) (em := (eBin opMul (eLook 1) (eLook 2))) (ρ := [.v (.lst (rs.map rowD)), .u, .u]) rowD (fun r => .str (List.replicate r.2.toNat r.1)) h rs fun r hr => by
    refine ⟨[.v (.lst (rs.map rowD)), .v (.str [r.1]), .v (.int r.2)], rfl, ?_⟩
    have h1 := hp r hr
    have h2 := each r hr
    have h3 : -1048576 ≤ r.2 ∧ r.2 ≤ 16777216 := by omega
    have h4 : r.2.toNat ≤ 16777216 := by omega
    simp [eBin, opMul, eLook, unbox, h3, h4, rep_sign]
  simp [eM1, eC, isStr, eLc, iOf, eVar, itemsD, wipeR, hl2, g, mJoin, unbox, strs_map, join_nil, -List.map_map]
  have s3 : (List.map List.length (List.map (fun a : Nat × Int => List.replicate a.2.toNat a.1) rs)).sum ≤ 16777216 := by
    have : (total rs).toNat ≤ 16777216 := by omega
    rw [s1]
    exact this
  rw [if_pos s3]
  rfl
/-- from_runs of a list of rows -/
theorem from_eq (rs : List (Nat × Int)) (h : Hc) (hl : rs.length ≤ 1000) (hp : ∀ r ∈ rs, 1 ≤ r.2) (ht : total rs ≤ 400) : m_from_runs [.lst (rs.map rowD)] h = .ok (.str (spread rs)) h := by
  have p0 : ∀ r ∈ rs, 0 ≤ r.2 := fun r hr => by have := hp r hr; omega
  have a := from_any rs h hl
  have b := from_sum rs h hl p0 (by omega)
  have c := from_join rs h hl p0 ht
  have e : (rs.any fun r => decide (r.2 < 1)) = false := by
    rw [List.any_eq_false]
    intro r hr
    have := hp r hr
    simp
    omega
  have d : ¬ 400 < total rs := by omega
  show (b_from_runs [.v (.lst (rs.map rowD)), .u, .u] h).toR = _
  unfold b_from_runs
  simp only [sSeq, sIf, tOrM, tB1, a, b, e, R.bind_ok, R.toS_ok, if_false, eBin, eC, opCmp, d, decide_false, sNx, sRet, Bool.false_eq_true]
  rw [c]
  rfl
end Z

namespace Z
open PySem PySem.Spec L2
/-! the plain law: told_runs -/
def partF (r : Nat × Int) : List Nat := (if 1 < r.2 then numD r.2 else []) ++ [r.1]
def toldF (rs : List (Nat × Int)) : List Nat := (rs.map partF).flatten
def figs : List Nat := [48, 49, 50, 51, 52, 53, 54, 55, 56, 57]
theorem figs_any (l : List Nat) (a b : Sl) (h : Hc) (hl : l.length ≤ 1000) : eAny (.n 1) [1] (iOf (eVar 0)) tYesM (eBin opIn (eLook 1) (eC (.str [48, 49, 50, 51, 52, 53, 54, 55, 56, 57]))) [.v (.str l), a, b] h = .ok (.bl (l.any fun c => decide (c ∈ figs))) h := by
  have hl2 : l.length ≤ 16777216 := by omega
  have g := gen_map (t := .n 1) (em := (eBin opIn (eLook 1) (eC (.str [48, 49, 50, 51, 52, 53, 54, 55, 56, 57])))) (ρ := [.v (.str l), .u, b]) (fun c => .str [c]) (fun c => .bl (decide (c ∈ figs))) h l fun c _ =>
    ⟨[.v (.str l), .v (.str [c]), b], rfl, by simp [eBin, opIn, inD, eLook, eC, unbox, figs]⟩
  unfold eAny eGen
  simp [iOf, eVar, itemsD, wipeR, g, hl2, any_map]
theorem numL_all : ((List.range 1001).all fun n => decide ((TL.numL n).length ≤ 4)) = true := by kernel_rfl
theorem numD_len {k : Int} (h : k ≤ 1000) : (numD k).length ≤ 4 := by
  have := List.all_eq_true.mp numL_all k.toNat (List.mem_range.mpr (by omega))
  exact of_decide_eq_true this
theorem mem_total {r : Nat × Int} : ∀ l : List (Nat × Int), (∀ x ∈ l, 0 ≤ x.2) → r ∈ l → r.2 ≤ total l
  | [], _, z => nomatch z
  | x :: l, hx, hm => by
    have e : total (x :: l) = x.2 + total l := by simp [total]
    have p1 := hx x List.mem_cons_self
    have p2 := (spread_len l fun y hy => hx y (List.mem_cons_of_mem _ hy)).2
    rcases List.mem_cons.mp hm with rfl | hm
    · omega
    · have := mem_total l (fun y hy => hx y (List.mem_cons_of_mem _ hy)) hm
      omega
theorem len_total : ∀ l : List (Nat × Int), (∀ x ∈ l, 1 ≤ x.2) → (l.length : Int) ≤ total l
  | [], _ => Int.le_refl 0
  | x :: l, hx => by
    have e : total (x :: l) = x.2 + total l := by simp [total]
    have p1 := hx x List.mem_cons_self
    have := len_total l fun y hy => hx y (List.mem_cons_of_mem _ hy)
    rw [List.length_cons]
    omega
/-- of a text's runs -/
theorem runs_small {l : List Nat} {r : Nat × Int} (h : r ∈ runsF l) : r.2 ≤ l.length := by
  obtain ⟨f1, f2, f3⟩ := runs_facts l
  rw [← f3]
  exact mem_total _ (fun x hx => by have := f1 x hx; omega) h
theorem runs_len (l : List Nat) : (runsF l).length ≤ l.length := by
  obtain ⟨f1, f2, f3⟩ := runs_facts l
  have := len_total _ f1
  rw [f3] at this
  omega
theorem told_len (rs : List (Nat × Int)) (hp : ∀ r ∈ rs, r.2 ≤ 1000) : ((rs.map partF).map List.length).sum ≤ 5 * rs.length := by
  induction rs with
  | nil => exact Nat.le_refl 0
  | cons r rs ih =>
    have := ih fun x hx => hp x (List.mem_cons_of_mem _ hx)
    have h1 := numD_len (hp r List.mem_cons_self)
    have h2 : (partF r).length ≤ 5 := by
      unfold partF
      split <;> simp <;> omega
    simp only [List.map_cons, List.sum_cons, List.length_cons]
    omega
/-- the parts joined, whatever tells the number -/
theorem told_join (em : EM) (im : IM) (t : Tg) (vs : List Nat) (ρ : Rho) (rs : List (Nat × Int)) (h : Hc) (hl : rs.length ≤ 1000) (hp : ∀ r ∈ rs, r.2 ≤ 1000) (hi : im ρ h = .ok (rs.map rowD) h)
    (he : ∀ r ∈ rs, ∃ ρ1, bindD t (rowD r) (wipeR ρ vs) = some ρ1 ∧ em ρ1 h = .ok (.str (partF r)) h) : eM1 mJoin (eC (.str [])) (eLc t vs im tYesM em) ρ h = .ok (.str (toldF rs)) h := by
  have hl2 : rs.length ≤ 16777216 := by omega
  have g := lc_map (t := t) (em := em) (ρ := wipeR ρ vs) rowD (fun r => .str (partF r)) h rs he
  have s := told_len rs hp
  have s3 : (List.map List.length (List.map partF rs)).sum ≤ 16777216 := by omega
  simp [eM1, eC, isStr, eLc, hi, hl2, g, mJoin, unbox, strs_map, join_nil, -List.map_map, s3]
  rfl
theorem told_eq (l : List Nat) (h : Hc) (hl : l.length ≤ 400) (hf : ∀ c ∈ l, c ∉ figs) : m_told_runs [.str l] h = .ok (.str (toldF (runsF l))) h := by
  obtain ⟨f1, f2, f3⟩ := runs_facts l
  have a := figs_any l .u .u h (by omega)
  have e : (l.any fun c => decide (c ∈ figs)) = false := by
    rw [List.any_eq_false]
    intro c hc
    simpa using hf c hc
  have hr := runs_eq l h hl
  have small : ∀ r ∈ runsF l, r.2 ≤ 400 := fun r hr => by have := runs_small hr; omega
  have rl : (runsF l).length ≤ 1000 := by have := runs_len l; omega
  have j := told_join (eBin opAdd (eIf (tB1 (eBin opGt (eLook 2) (eC (.int 1)))) (eFmt (eVar 2)) (eC (.str []))) (eLook 1)) (iOf (eCall 1 m_runs (aCons (eVar 0) aNil))) (.t [(.n 1), (.n 2)]) [1, 2] [.v (.str l), .u, .u] (runsF l) h rl (fun r hr => by have := small r hr; omega)
    (by simp [iOf, eCall, aCons, aNil, eVar, hr, itemsD]) fun r hr => ⟨[.v (.str l), .v (.str [r.1]), .v (.int r.2)], rfl, by
      have h1 := f1 r hr
      have h2 := small r hr
      have h3 := numD_len (k := r.2) (by omega)
      have h4 : 0 ≤ r.2 ∧ r.2 < 18446744073709551616 := by omega
      have h5 : (numD r.2).length + 1 ≤ 16777216 := by omega
      by_cases q : 1 < r.2
      · simp [eBin, opAdd, eIf, tB1, opCmp, eLook, eC, eFmt, eVar, unbox, partF, q, h4]
        omega
      · simp [eBin, opAdd, eIf, tB1, opCmp, eLook, eC, eFmt, eVar, unbox, partF, q]⟩
  show (b_told_runs [.v (.str l), .u, .u] h).toR = _
  unfold b_told_runs
  simp only [sSeq, sIf, tB1, a, e, R.bind_ok, R.toS_ok, if_false, sNx, sRet, Bool.false_eq_true, j]
  rfl
end Z

namespace Z
open PySem PySem.Spec L2
/-! the plain law: loops that may end early; told runs read -/
def stops : O → Bool
  | .rt _ _ => true
  | .ex _ _ _ => true
  | _ => false
def runO {α β : Type} (f : β → α → Option β) : List α → β → Option β
  | [], s => some s
  | a :: xs, s => match f s a with
    | some s' => runO f xs s'
    | none => none
theorem loop_foldO {α β : Type} {t : Tg} {b : SM} (enc : α → D) (rho : β → Sl → Rho) (f : β → α → Option β) (ok : Nat → β → Prop) (bad : O → Prop) (h : Hc) (hbad : ∀ o, bad o → stops o = true) : ∀ (xs : List α) (i : Nat) (s : β) (x : Sl), ok i s →
    (∀ j a s x, xs[j]? = some a → ok (i + j) s → ∃ ρ1, bindD t (enc a) (rho s x) = some ρ1 ∧ (∀ s', f s a = some s' → ok (i + j + 1) s' ∧ ∃ x', b ρ1 h = .nx (rho s' x') h ∨ b ρ1 h = .ct (rho s' x') h) ∧ (f s a = none → bad (b ρ1 h))) →
    (∀ s', runO f xs s = some s' → ok (i + xs.length) s' ∧ ∃ x', loopM t b (xs.map enc) (rho s x) h = .nx (rho s' x') h) ∧ (runO f xs s = none → bad (loopM t b (xs.map enc) (rho s x) h))
  | [], i, s, x, o, _ => ⟨fun s' e => by cases e; exact ⟨o, x, rfl⟩, fun e => by cases e⟩
  | a :: xs, i, s, x, o, st => by
    obtain ⟨ρ1, e1, k1, k2⟩ := st 0 a s x rfl o
    cases q : f s a with
    | none =>
      have hb := k2 q
      refine ⟨fun s' e => ?_, fun _ => ?_⟩
      · simp [runO, q] at e
      · have hs := hbad _ hb
        simp only [List.map_cons, loopM, e1]
        revert hb hs
        cases b ρ1 h with
        | rt d h => exact fun z _ => z
        | ex c ρ h => exact fun z _ => z
        | nx ρ h => exact fun _ z => by cases z
        | ct ρ h => exact fun _ z => by cases z
        | bk ρ h => exact fun _ z => by cases z
        | bad => exact fun _ z => by cases z
    | some s1 =>
      obtain ⟨o1, x1, e2⟩ := k1 s1 q
      have ih := loop_foldO enc rho f ok bad h hbad xs (i + 1) s1 x1 o1 fun j a' s' x' e z => by
        have := st (j + 1) a' s' x' e (by rw [show i + (j + 1) = i + 1 + j by omega]; exact z)
        rw [show i + (j + 1) + 1 = i + 1 + j + 1 by omega] at this
        exact this
      have el : loopM t b ((a :: xs).map enc) (rho s x) h = loopM t b (xs.map enc) (rho s1 x1) h := by
        rcases e2 with e2 | e2
        · simp only [List.map_cons, loopM, e1, e2]
        · simp only [List.map_cons, loopM, e1, e2]
      rw [el]
      simp only [runO, q, List.length_cons]
      rw [show i + (xs.length + 1) = i + 1 + xs.length by omega]
      exact ih
def readS (st : List (Nat × Int) × List Nat) (c : Nat) : Option (List (Nat × Int) × List Nat) :=
  if c ∈ figs then (if (st.2 ++ [c]).length > 3 ∨ (st.2 ++ [c]).head? = some 48 then none else some (st.1, st.2 ++ [c]))
  else if st.2 = [49] then none else some (st.1 ++ [(c, if st.2 ≠ [] then ((NumText.digitsVal st.2 : Nat) : Int) else 1)], [])
/-- what a told text reads as -/
def readF (l : List Nat) : Option (List (Nat × Int)) := match runO readS l ([], []) with
  | some (rs, []) => some rs
  | _ => none
end Z

namespace Z
open PySem PySem.Spec L2
/-! the plain law: read_runs -/
def RDB : SM := (sIf (tB1 (eBin opIn (eLook 3) (eC (.str [48, 49, 50, 51, 52, 53, 54, 55, 56, 57])))) (sSeq (sAug 2 opIAdd (eVar 3))
    (sIf (tOrM (tB1 (eBin opGt (eBi bLen (aCons (eLook 2) aNil)) (eC (.int 3)))) (tB1 (eBin opEq (eBin opIx (eLook 2) (eC (.int 0))) (eC (.str [48]))))) (sRaise 1) sNx)) (sSeq (sIf (tB1 (eBin opEq (eLook 2) (eC (.str [49])))) (sRaise 1) sNx)
    (sSeq (sWm wAppend 1 (aCons (eTup (aCons (eVar 3) (aCons (eIf (tB1 (eBin opNe (eLook 2) (eC (.str [])))) (eBi bInt (aCons (eLook 2) aNil)) (eC (.int 1))) aNil))) aNil))
    (sSet 2 (eC (.str []))))))
/-- of the state j: few rows, a short number of figures -/
def RdOk (j : Nat) (s : List (Nat × Int) × List Nat) : Prop := s.1.length ≤ j ∧ s.2.length ≤ 3 ∧ (∀ c ∈ s.2, 48 ≤ c ∧ c ≤ 57)
theorem figs_in {c : Nat} : c ∈ figs ↔ 48 ≤ c ∧ c ≤ 57 := by
  simp only [figs, List.mem_cons, List.not_mem_nil, or_false]
  omega
theorem at_head (c : Nat) (l : List Nat) : atI (c :: l) 0 = some c := at0 c l
theorem read_step (l : List Nat) (h : Hc) (j : Nat) (c : Nat) (s : List (Nat × Int) × List Nat) (x : Sl) (hj : j ≤ 1000) (o : RdOk j s) : ∃ ρ1, bindD (.n 3) (.str [c]) [.v (.str l), .o (.lst (s.1.map rowD)), .v (.str s.2), x] = some ρ1 ∧
    (∀ s', readS s c = some s' → RdOk (j + 1) s' ∧ ∃ x', RDB ρ1 h = .nx [.v (.str l), .o (.lst (s'.1.map rowD)), .v (.str s'.2), x'] h ∨ RDB ρ1 h = .ct [.v (.str l), .o (.lst (s'.1.map rowD)), .v (.str s'.2), x'] h) ∧ (readS s c = none → ∃ ρ, RDB ρ1 h = .ex 1 ρ h) := by
  obtain ⟨rs, num⟩ := s
  obtain ⟨o1, o2, o3⟩ := o
  replace o1 : rs.length ≤ j := o1
  replace o2 : num.length ≤ 3 := o2
  replace o3 : ∀ c ∈ num, 48 ≤ c ∧ c ≤ 57 := o3
  refine ⟨[.v (.str l), .o (.lst (rs.map rowD)), .v (.str num), .v (.str [c])], rfl, ?_⟩
  have z1 : num.length + 1 ≤ 16777216 := by omega
  by_cases hc : c ∈ figs
  · have hc2 := figs_in.mp hc
    have hc3 : c ∈ [48, 49, 50, 51, 52, 53, 54, 55, 56, 57] := hc
    obtain ⟨d, r, hd⟩ : ∃ d r, num ++ [c] = d :: r := by
      cases num with
      | nil => exact ⟨c, [], rfl⟩
      | cons a t => exact ⟨a, t ++ [c], rfl⟩
    have hlen : (num ++ [c]).length = num.length + 1 := by simp
    have hat : atI (num ++ [c]) 0 = some d := by rw [hd]; exact at0 d r
    have hhd : (num ++ [c]).head? = some d := by rw [hd]; rfl
    by_cases q : (num ++ [c]).length > 3 ∨ (num ++ [c]).head? = some 48
    · refine ⟨fun s' e => ?_, fun _ => ?_⟩
      · unfold readS at e
        rw [if_pos hc, if_pos q] at e
        cases e
      · by_cases q1 : 3 < (num.length : Int) + 1
        · exact ⟨_, by
            simp [RDB, sIf, sSeq, sAug, opIAdd, tB1, tOrM, eBin, opIn, inD, eLook, eVar, eC, unbox, hc3, z1, eBi, bLen, aCons, aNil, opCmp, q1, sRaise]
            rfl⟩
        · have q2 : d = 48 := by
            rcases q with q | q
            · omega
            · rw [hhd] at q
              exact Option.some.inj q
          exact ⟨_, by
            simp [RDB, sIf, sSeq, sAug, opIAdd, tB1, tOrM, eBin, opIn, inD, eLook, eVar, eC, unbox, hc3, z1, eBi, bLen, aCons, aNil, opCmp, q1, opEq, opIx, hat, q2, pl, D.eqv, sRaise]
            rfl⟩
    · refine ⟨fun s' e => ?_, fun e => ?_⟩
      · unfold readS at e
        rw [if_pos hc, if_neg q] at e
        cases e
        refine ⟨⟨by show rs.length ≤ j + 1; omega, by show (num ++ [c]).length ≤ 3; omega, fun y hy => ?_⟩, .v (.str [c]), .inl ?_⟩
        · rcases List.mem_append.mp hy with hy | hy
          · exact o3 y hy
          · rw [List.mem_singleton.mp hy]
            exact hc2
        · have q1 : ¬ 3 < (num.length : Int) + 1 := by omega
          have q2 : d ≠ 48 := fun z => q (.inr (by rw [hhd, z]))
          simp [RDB, sIf, sSeq, sAug, opIAdd, tB1, tOrM, eBin, opIn, inD, eLook, eVar, eC, unbox, hc3, z1, eBi, bLen, aCons, aNil, opCmp, q1, opEq, opIx, hat, q2, pl, D.eqv, sNx]
      · unfold readS at e
        rw [if_pos hc, if_neg q] at e
        cases e
  · have hc3 : c ∉ [48, 49, 50, 51, 52, 53, 54, 55, 56, 57] := hc
    by_cases q : num = [49]
    · refine ⟨fun s' e => ?_, fun _ => ?_⟩
      · unfold readS at e
        rw [if_neg hc, if_pos q] at e
        cases e
      · subst q
        exact ⟨_, by
          simp [RDB, sIf, sSeq, tB1, eBin, opIn, inD, eLook, eC, unbox, hc3, opEq, pl, D.eqv, sRaise]
          rfl⟩
    · refine ⟨fun s' e => ?_, fun e => ?_⟩
      · unfold readS at e
        rw [if_neg hc, if_neg q] at e
        cases e
        refine ⟨⟨?_, Nat.zero_le 3, fun y hy => absurd hy (by simp)⟩, .v (.str [c]), .inl ?_⟩
        · show (rs ++ [_]).length ≤ j + 1
          rw [List.length_append]
          show rs.length + 1 ≤ j + 1
          omega
        · have z2 : rs.length < 16777216 := by omega
          have z3 : num.length ≤ 640 := by omega
          cases num with
          | nil => simp [RDB, sIf, sSeq, tB1, eBin, opIn, inD, eLook, eC, unbox, hc3, opEq, opNe, pl, D.eqv, sNx, sWm, held, isL, mLst, wAppend, put, eTup, aCons, aNil, eVar, eIf, z2, sSet, rowD]
          | cons a t =>
            simp [RDB, sIf, sSeq, tB1, eBin, opIn, inD, eLook, eC, unbox, hc3, opEq, opNe, pl, D.eqv, q, sNx, sWm, held, isL, mLst, wAppend, put, eTup, aCons, aNil, eVar, eIf, eBi, bInt, z2, z3, sSet, rowD]
            have z4 : t.length ≤ 639 ∧ (48 ≤ a ∧ a ≤ 57) ∧ ∀ (a : Nat), a ∈ t → 48 ≤ a ∧ a ≤ 57 := by
              refine ⟨?_, o3 a List.mem_cons_self, fun y hy => o3 y (List.mem_cons_of_mem _ hy)⟩
              have e : (a :: t).length = t.length + 1 := rfl
              omega
            rw [if_pos z4]
            rfl
      · unfold readS at e
        rw [if_neg hc, if_neg q] at e
        cases e
theorem read_eq (l : List Nat) (h : Hc) (hl : l.length ≤ 1000) : (∀ rs, readF l = some rs → m_read_runs [.str l] h = m_from_runs [.lst (rs.map rowD)] h) ∧ (readF l = none → m_read_runs [.str l] h = .ex 1 h) := by
  have key := loop_foldO (t := .n 3) (b := RDB) (fun c : Nat => D.str [c]) (fun (s : List (Nat × Int) × List Nat) x => [.v (.str l), .o (.lst (s.1.map rowD)), .v (.str s.2), x]) readS RdOk (fun o => ∃ ρ, o = .ex 1 ρ h) h (fun o ⟨ρ, z⟩ => by rw [z]; rfl) l 0 ([], []) .u
    ⟨Nat.le_refl 0, Nat.zero_le 3, fun c hc => absurd hc (by simp)⟩ fun j c s x ec o => by
      have hj := (List.getElem?_eq_some_iff.mp ec).1
      have := read_step l h (0 + j) c s x (by omega) o
      exact this
  obtain ⟨k1, k2⟩ := key
  show (∀ rs, readF l = some rs → (b_read_runs [.v (.str l), .u, .u, .u] h).toR = _) ∧ (readF l = none → (b_read_runs [.v (.str l), .u, .u, .u] h).toR = _)
  have start : b_read_runs [.v (.str l), .u, .u, .u] h = (sSeq (sFor (.n 3) (iOf (eVar 0)) RDB) (sSeq (sIf (tB1 (eBin opNe (eLook 2) (eC (.str [])))) (sRaise 1) sNx) (sFz 1 (sRet (eCall 1 m_from_runs (aCons (eVar 1) aNil)))))) [.v (.str l), .o (.lst []), .v (.str []), .u] h := rfl
  have fl : ∀ ρ, ρ = ([.v (.str l), .o (.lst []), .v (.str []), .u] : Rho) → sFor (.n 3) (iOf (eVar 0)) RDB ρ h = loopM (.n 3) RDB (l.map fun c => .str [c]) ρ h := fun ρ e => by
    subst e
    simp [sFor, iOf, eVar, itemsD]
  rw [start]
  unfold readF
  refine ⟨fun rs e => ?_, fun e => ?_⟩
  · split at e
    · rename_i rs' q
      cases e
      obtain ⟨_, x', e1⟩ := k1 _ q
      simp only [sSeq]
      rw [fl _ rfl]
      have e1' : loopM (.n 3) RDB (l.map fun c => .str [c]) [.v (.str l), .o (.lst []), .v (.str []), .u] h = _ := e1
      rw [e1']
      simp [sIf, tB1, eBin, opNe, eLook, eC, unbox, pl, D.eqv, sNx, sFz, sRet, eCall, aCons, aNil, eVar]
      cases m_from_runs [.lst (rs.map rowD)] h <;> rfl
    · cases e
  · cases q : runO readS l ([], []) with
    | none =>
      obtain ⟨ρ, e1⟩ := k2 q
      simp only [sSeq]
      rw [fl _ rfl]
      have e1' : loopM (.n 3) RDB (l.map fun c => .str [c]) [.v (.str l), .o (.lst []), .v (.str []), .u] h = _ := e1
      rw [e1']
      rfl
    | some s' =>
      obtain ⟨rs, num⟩ := s'
      rw [q] at e
      obtain ⟨_, x', e1⟩ := k1 _ q
      simp only [sSeq]
      rw [fl _ rfl]
      have e1' : loopM (.n 3) RDB (l.map fun c => .str [c]) [.v (.str l), .o (.lst []), .v (.str []), .u] h = _ := e1
      rw [e1']
      cases num with
      | nil => cases e
      | cons a t => simp [sIf, tB1, eBin, opNe, eLook, eC, unbox, pl, D.eqv, sRaise, O.toR]
end Z

namespace Z
open PySem PySem.Spec L2
/-! the plain law: what a told text reads as -/
def Figs3 (num : List Nat) : Prop := num.length ≤ 3 ∧ (∀ c ∈ num, 48 ≤ c ∧ c ≤ 57) ∧ num.head? ≠ some 48
def Rd2 (j : Nat) (s : List (Nat × Int) × List Nat) : Prop := s.1.length ≤ j ∧ Figs3 s.2 ∧ ∀ r ∈ s.1, 1 ≤ r.2 ∧ r.2 ≤ 999
theorem figs3_val {num : List Nat} (h : Figs3 num) (ne : num ≠ []) : 1 ≤ NumText.digitsVal num ∧ NumText.digitsVal num ≤ 999 := by
  obtain ⟨h1, h2, h3⟩ := h
  match num, ne, h1, h2, h3 with
  | [a], _, _, h2, h3 =>
    have := h2 a (by simp)
    have : a ≠ 48 := fun z => h3 (by rw [z]; rfl)
    simp [NumText.digitsVal]
    omega
  | [a, b], _, _, h2, h3 =>
    have := h2 a (by simp)
    have := h2 b (by simp)
    have : a ≠ 48 := fun z => h3 (by rw [z]; rfl)
    simp [NumText.digitsVal]
    omega
  | [a, b, c], _, _, h2, h3 =>
    have := h2 a (by simp)
    have := h2 b (by simp)
    have := h2 c (by simp)
    have : a ≠ 48 := fun z => h3 (by rw [z]; rfl)
    simp [NumText.digitsVal]
    omega
  | a :: b :: c :: d :: r, _, h1, _, _ => simp at h1
theorem readS_rd2 {j c : Nat} {s s' : List (Nat × Int) × List Nat} (o : Rd2 j s) (e : readS s c = some s') : Rd2 (j + 1) s' := by
  obtain ⟨rs, num⟩ := s
  obtain ⟨o1, o2, o3⟩ := o
  unfold readS at e
  split at e
  · rename_i hc
    split at e
    · cases e
    · rename_i q
      cases e
      refine ⟨Nat.le_succ_of_le o1, ⟨Nat.le_of_not_lt fun z => q (.inl z), fun y hy => ?_, fun z => q (.inr z)⟩, o3⟩
      rcases List.mem_append.mp hy with hy | hy
      · exact o2.2.1 y hy
      · rw [List.mem_singleton.mp hy]
        exact figs_in.mp hc
  · split at e
    · cases e
    · cases e
      refine ⟨by rw [List.length_append]; exact Nat.succ_le_succ o1, ⟨Nat.zero_le 3, fun y hy => absurd hy (by simp), by simp⟩, fun r hr => ?_⟩
      rcases List.mem_append.mp hr with hr | hr
      · exact o3 r hr
      · rw [List.mem_singleton.mp hr]
        show 1 ≤ (if num ≠ [] then ((NumText.digitsVal num : Nat) : Int) else 1) ∧ (if num ≠ [] then ((NumText.digitsVal num : Nat) : Int) else 1) ≤ 999
        by_cases hn : num = []
        · rw [if_neg (fun z => z hn)]; omega
        · rw [if_pos hn]
          have hv : 1 ≤ NumText.digitsVal num ∧ NumText.digitsVal num ≤ 999 := figs3_val o2 hn
          omega
theorem runO_rd2 : ∀ (l : List Nat) (i : Nat) (s s' : List (Nat × Int) × List Nat), Rd2 i s → runO readS l s = some s' → Rd2 (i + l.length) s'
  | [], _, _, _, o, e => by cases e; exact o
  | c :: l, i, s, s', o, e => by
    simp only [runO] at e
    split at e
    · rename_i s1 q
      have := runO_rd2 l (i + 1) s1 s' (readS_rd2 o q) e
      rw [List.length_cons, show i + (l.length + 1) = i + 1 + l.length by omega]
      exact this
    · cases e
theorem readF_facts {l : List Nat} {rs : List (Nat × Int)} (e : readF l = some rs) : rs.length ≤ l.length ∧ ∀ r ∈ rs, 1 ≤ r.2 ∧ r.2 ≤ 999 := by
  unfold readF at e
  split at e
  · rename_i q
    cases e
    obtain ⟨a, b, c⟩ := runO_rd2 l 0 ([], []) _ ⟨Nat.le_refl 0, ⟨Nat.zero_le 3, fun c hc => absurd hc (by simp), by simp⟩, fun r hr => absurd hr (by simp)⟩ q
    exact ⟨by simpa using a, c⟩
  · cases e
end Z

namespace Z
open PySem PySem.Spec L2
/-! the plain law: _law_read -/
theorem spread_length (rs : List (Nat × Int)) (h : ∀ r ∈ rs, 0 ≤ r.2) : (spread rs).length = (total rs).toNat := by
  rw [← (spread_len rs h).1]
  unfold spread
  rw [List.flatMap_def, List.length_flatten]
theorem total_le {rs : List (Nat × Int)} {b : Int} (h : ∀ r ∈ rs, r.2 ≤ b) : total rs ≤ b * rs.length := by
  induction rs with
  | nil => simp [total]
  | cons r rs ih =>
    have := ih fun x hx => h x (List.mem_cons_of_mem _ hx)
    have h1 := h r List.mem_cons_self
    have e : total (r :: rs) = r.2 + total rs := by simp [total]
    rw [e, List.length_cons, show ((rs.length + 1 : Nat) : Int) = (rs.length : Int) + 1 from rfl, Int.mul_add, Int.mul_one]
    omega
theorem spread_few {rs : List (Nat × Int)} (h : ∀ r ∈ rs, 1 ≤ r.2 ∧ r.2 ≤ 999) : (spread rs).length ≤ 999 * rs.length := by
  rw [spread_length rs fun r hr => by have := h r hr; omega]
  have := total_le (b := 999) fun r hr => (h r hr).2
  omega
def LRB : SM := (sIf (tB1 (eBin opIn (eLook 3) (eC (.str [48, 49, 50, 51, 52, 53, 54, 55, 56, 57])))) (sSeq (sSet 2 (eBin opAdd (eLook 2) (eLook 3)))
    (sIf (tOrM (tB1 (eBin opGt (eBi bLen (aCons (eLook 2) aNil)) (eC (.int 3)))) (tB1 (eBin opEq (eBin opIx (eLook 2) (eC (.int 0))) (eC (.str [48]))))) (sRet (eC .non)) sNx)) (sSeq (sIf (tB1 (eBin opEq (eLook 2) (eC (.str [49])))) (sRet (eC .non)) sNx)
    (sPar 1 2 (vE (eBin opAdd (eLook 1) (eBin opMul (eLook 3) (eIf (tB1 (eBin opNe (eLook 2) (eC (.str [])))) (eBi bInt (aCons (eLook 2) aNil)) (eC (.int 1)))))) (vE (eC (.str []))))))
theorem lread_step (l : List Nat) (h : Hc) (j : Nat) (c : Nat) (s : List (Nat × Int) × List Nat) (x : Sl) (hj : j ≤ 1000) (o : Rd2 j s) : ∃ ρ1, bindD (.n 3) (.str [c]) [.v (.str l), .v (.str (spread s.1)), .v (.str s.2), x] = some ρ1 ∧
    (∀ s', readS s c = some s' → Rd2 (j + 1) s' ∧ ∃ x', LRB ρ1 h = .nx [.v (.str l), .v (.str (spread s'.1)), .v (.str s'.2), x'] h ∨ LRB ρ1 h = .ct [.v (.str l), .v (.str (spread s'.1)), .v (.str s'.2), x'] h) ∧ (readS s c = none → LRB ρ1 h = .rt .non h) := by
  have keep := fun s' (e : readS s c = some s') => readS_rd2 o e
  obtain ⟨rs, num⟩ := s
  obtain ⟨o1, o2, o4⟩ := o
  replace o1 : rs.length ≤ j := o1
  replace o4 : ∀ r ∈ rs, 1 ≤ r.2 ∧ r.2 ≤ 999 := o4
  have o2' : Figs3 num := o2
  have oF : Figs3 num := o2
  obtain ⟨o2, o3, _⟩ := oF
  have sp := spread_few o4
  refine ⟨[.v (.str l), .v (.str (spread rs)), .v (.str num), .v (.str [c])], rfl, ?_⟩
  have z1 : num.length + 1 ≤ 16777216 := by omega
  by_cases hc : c ∈ figs
  · have hc3 : c ∈ [48, 49, 50, 51, 52, 53, 54, 55, 56, 57] := hc
    obtain ⟨d, r, hd⟩ : ∃ d r, num ++ [c] = d :: r := by
      cases num with
      | nil => exact ⟨c, [], rfl⟩
      | cons a t => exact ⟨a, t ++ [c], rfl⟩
    have hlen : (num ++ [c]).length = num.length + 1 := by simp
    have hat : atI (num ++ [c]) 0 = some d := by rw [hd]; exact at0 d r
    have hhd : (num ++ [c]).head? = some d := by rw [hd]; rfl
    by_cases q : (num ++ [c]).length > 3 ∨ (num ++ [c]).head? = some 48
    · refine ⟨fun s' e => ?_, fun _ => ?_⟩
      · unfold readS at e
        rw [if_pos hc, if_pos q] at e
        cases e
      · by_cases q1 : 3 < (num.length : Int) + 1
        · simp [LRB, sIf, sSeq, sSet, opAdd, tB1, tOrM, eBin, opIn, inD, eLook, eVar, eC, unbox, hc3, z1, eBi, bLen, aCons, aNil, opCmp, q1, sRet]
        · have q2 : d = 48 := by
            rcases q with q | q
            · omega
            · rw [hhd] at q
              exact Option.some.inj q
          simp [LRB, sIf, sSeq, sSet, opAdd, tB1, tOrM, eBin, opIn, inD, eLook, eVar, eC, unbox, hc3, z1, eBi, bLen, aCons, aNil, opCmp, q1, opEq, opIx, hat, q2, pl, D.eqv, sRet]
    · refine ⟨fun s' e => ⟨keep s' e, ?_⟩, fun e => ?_⟩
      · unfold readS at e
        rw [if_pos hc, if_neg q] at e
        cases e
        refine ⟨.v (.str [c]), .inl ?_⟩
        have q1 : ¬ 3 < (num.length : Int) + 1 := by omega
        have q2 : d ≠ 48 := fun z => q (.inr (by rw [hhd, z]))
        simp [LRB, sIf, sSeq, sSet, opAdd, tB1, tOrM, eBin, opIn, inD, eLook, eVar, eC, unbox, hc3, z1, eBi, bLen, aCons, aNil, opCmp, q1, opEq, opIx, hat, q2, pl, D.eqv, sNx]
      · unfold readS at e
        rw [if_pos hc, if_neg q] at e
        cases e
  · have hc3 : c ∉ [48, 49, 50, 51, 52, 53, 54, 55, 56, 57] := hc
    by_cases q : num = [49]
    · refine ⟨fun s' e => ?_, fun _ => ?_⟩
      · unfold readS at e
        rw [if_neg hc, if_pos q] at e
        cases e
      · subst q
        simp [LRB, sIf, sSeq, tB1, eBin, opIn, inD, eLook, eC, unbox, hc3, opEq, pl, D.eqv, sRet]
    · refine ⟨fun s' e => ⟨keep s' e, ?_⟩, fun e => ?_⟩
      · unfold readS at e
        rw [if_neg hc, if_neg q] at e
        cases e
        refine ⟨.v (.str [c]), .inl ?_⟩
        cases num with
        | nil =>
          have z2 : (spread rs).length + 1 ≤ 16777216 := by omega
          have e1 : spread (rs ++ [(c, 1)]) = spread rs ++ [c] := by rw [spread_app]; rfl
          have e2 : repL [c] 1 = [c] := rfl
          simp [LRB, sIf, sSeq, tB1, eBin, opIn, inD, eLook, eC, unbox, hc3, opEq, opNe, pl, D.eqv, sNx, aCons, aNil, eVar, eIf, opMul, opAdd, sPar, vE, e1, e2]
          rw [if_pos (by omega)]
          rfl
        | cons a t =>
          have z3 : (a :: t).length ≤ 640 := by omega
          obtain ⟨v1, v2⟩ := figs3_val (num := a :: t) o2' (by simp)
          have z4 : t.length ≤ 639 ∧ (48 ≤ a ∧ a ≤ 57) ∧ ∀ (a : Nat), a ∈ t → 48 ≤ a ∧ a ≤ 57 := by
            refine ⟨?_, o3 a List.mem_cons_self, fun y hy => o3 y (List.mem_cons_of_mem _ hy)⟩
            have e : (a :: t).length = t.length + 1 := rfl
            omega
          have hb : bInt [.str (a :: t)] h = .ok (.int ((NumText.digitsVal (a :: t) : Nat) : Int)) h := by
            simp [bInt]
            exact ⟨z4.1, z4.2.1.1, z4.2.1.2, z4.2.2⟩
          have e1 : spread (rs ++ [(c, ((NumText.digitsVal (a :: t) : Nat) : Int))]) = spread rs ++ repL [c] ((NumText.digitsVal (a :: t) : Nat) : Int) := by
            rw [spread_app, rep_sign]
            simp [spread]
          have z5 : (repL [c] ((NumText.digitsVal (a :: t) : Nat) : Int)).length = NumText.digitsVal (a :: t) := by rw [repL_len]; simp
          rw [if_pos (show a :: t ≠ [] by simp)]
          generalize NumText.digitsVal (a :: t) = v at v1 v2 e1 z5 hb
          have z6 : -1048576 ≤ (v : Int) ∧ (v : Int) ≤ 16777216 := by omega
          have z7 : v ≤ 16777216 := by omega
          have z8 : (spread rs).length + v ≤ 16777216 := by omega
          simp [LRB, sIf, sSeq, tB1, eBin, opIn, inD, eLook, eC, unbox, hc3, opEq, opNe, pl, D.eqv, q, sNx, aCons, aNil, eVar, eIf, eBi, hb, opMul, opAdd, sPar, vE, z6, z7, z5, z8, e1]
      · unfold readS at e
        rw [if_neg hc, if_neg q] at e
        cases e
end Z

namespace Z
open PySem PySem.Spec L2
/-! the plain law: _law_read, whole -/
theorem lread_eq (l : List Nat) (h : Hc) (hl : l.length ≤ 1000) : m__law_read [.str l] h = .ok (match readF l with
    | some rs => if total rs > 400 then .non else .str (spread rs)
    | none => .non) h := by
  have key := loop_foldO (t := .n 3) (b := LRB) (fun c : Nat => D.str [c]) (fun (s : List (Nat × Int) × List Nat) x => [.v (.str l), .v (.str (spread s.1)), .v (.str s.2), x]) readS Rd2 (fun o => o = .rt .non h) h (fun o z => by rw [z]; rfl) l 0 ([], []) .u
    ⟨Nat.le_refl 0, ⟨Nat.zero_le 3, fun c hc => absurd hc (by simp), by simp⟩, fun r hr => absurd hr (by simp)⟩ fun j c s x ec o => by
      have hj := (List.getElem?_eq_some_iff.mp ec).1
      have := lread_step l h (0 + j) c s x (by omega) o
      exact this
  obtain ⟨k1, k2⟩ := key
  show (b__law_read [.v (.str l), .u, .u, .u] h).toR = _
  have start : b__law_read [.v (.str l), .u, .u, .u] h = (sSeq (sFor (.n 3) (iOf (eVar 0)) LRB) (sRet (eIf (tOrM (tB1 (eBin opNe (eLook 2) (eC (.str [])))) (tB1 (eBin opGt (eBi bLen (aCons (eLook 1) aNil)) (eC (.int 400))))) (eC .non) (eVar 1)))) [.v (.str l), .v (.str []), .v (.str []), .u] h := rfl
  have fl : sFor (.n 3) (iOf (eVar 0)) LRB ([.v (.str l), .v (.str []), .v (.str []), .u] : Rho) h = loopM (.n 3) LRB (l.map fun c => .str [c]) [.v (.str l), .v (.str []), .v (.str []), .u] h := by
    simp [sFor, iOf, eVar, itemsD]
  rw [start]
  unfold readF
  simp only [sSeq]
  rw [fl]
  cases q : runO readS l ([], []) with
  | none =>
    have e1 : loopM (.n 3) LRB (l.map fun c => .str [c]) [.v (.str l), .v (.str []), .v (.str []), .u] h = _ := k2 q
    rw [e1]
    rfl
  | some s' =>
    obtain ⟨rs, num⟩ := s'
    obtain ⟨⟨o1, o2, o4⟩, x', e1⟩ := k1 _ q
    replace o1 : rs.length ≤ 0 + l.length := o1
    replace o4 : ∀ r ∈ rs, 1 ≤ r.2 ∧ r.2 ≤ 999 := o4
    have sp := spread_few o4
    have sl := spread_length rs fun r hr => by have := o4 r hr; omega
    have s2 := (spread_len rs fun r hr => by have := o4 r hr; omega).2
    have e1' : loopM (.n 3) LRB (l.map fun c => .str [c]) [.v (.str l), .v (.str []), .v (.str []), .u] h = _ := e1
    rw [e1']
    have z : (spread rs).length ≤ 16777216 := by omega
    cases num with
    | nil =>
      have t : ((400 : Int) < ((spread rs).length : Nat)) ↔ total rs > 400 := by omega
      by_cases q4 : total rs > 400
      · have t' := t.mpr q4
        simp [sRet, eIf, tOrM, tB1, eBin, opNe, eLook, eC, unbox, pl, D.eqv, eBi, bLen, aCons, aNil, opCmp, z, t', q4, O.toR]
      · have t' : ¬ ((400 : Int) < ((spread rs).length : Nat)) := fun y => q4 (t.mp y)
        simp [sRet, eIf, tOrM, tB1, eBin, opNe, eLook, eC, unbox, pl, D.eqv, eBi, bLen, aCons, aNil, opCmp, z, t', q4, O.toR, eVar]
        try omega
    | cons a u => simp [sRet, eIf, tOrM, tB1, eBin, opNe, eLook, eC, unbox, pl, D.eqv, O.toR]
end Z

namespace Z
open PySem PySem.Spec L2
/-! the plain law: from_runs, raising or not -/
theorem from_all (rs : List (Nat × Int)) (h : Hc) (hl : rs.length ≤ 1000) (hp : ∀ r ∈ rs, 0 ≤ r.2) (ht : total rs < 2 ^ 62) :
    m_from_runs [.lst (rs.map rowD)] h = if (rs.any fun r => decide (r.2 < 1)) = true ∨ 400 < total rs then .ex 1 h else .ok (.str (spread rs)) h := by
  have a := from_any rs h hl
  have b := from_sum rs h hl hp ht
  show (b_from_runs [.v (.lst (rs.map rowD)), .u, .u] h).toR = _
  unfold b_from_runs
  cases e : (rs.any fun r => decide (r.2 < 1)) with
  | true =>
    rw [e] at a
    rw [if_pos (.inl rfl)]
    simp only [sSeq, sIf, tOrM, tB1, a, R.bind_ok, R.toS_ok, if_true]
    rfl
  | false =>
    rw [e] at a
    by_cases d : 400 < total rs
    · rw [if_pos (.inr d)]
      simp only [sSeq, sIf, tOrM, tB1, a, b, R.bind_ok, R.toS_ok, if_false, eBin, eC, opCmp, d, decide_true, Bool.false_eq_true, if_true]
      rfl
    · rw [if_neg (fun z => z.elim (fun y => by cases y) d)]
      have c := from_join rs h hl hp (by omega)
      simp only [sSeq, sIf, tOrM, tB1, a, b, R.bind_ok, R.toS_ok, if_false, eBin, eC, opCmp, d, decide_false, sNx, sRet, Bool.false_eq_true]
      rw [c]
      rfl
end Z

namespace Z
open PySem PySem.Spec L2
/-! the plain law: what was told is read again -/
def chk : List Nat → List Nat → Bool
  | _, [] => true
  | num, d :: ds => decide (d ∈ figs) && (!decide ((num ++ [d]).length > 3 ∨ (num ++ [d]).head? = some 48) && chk (num ++ [d]) ds)
theorem chk_run {rs : List (Nat × Int)} : ∀ (ds num rest : List Nat), chk num ds = true → runO readS (ds ++ rest) (rs, num) = runO readS rest (rs, num ++ ds)
  | [], num, rest, _ => by rw [List.append_nil]; rfl
  | d :: ds, num, rest, h => by
    simp only [chk, Bool.and_eq_true, decide_eq_true_eq, Bool.not_eq_true', decide_eq_false_iff_not] at h
    obtain ⟨h1, h2, h3⟩ := h
    have e : readS (rs, num) d = some (rs, num ++ [d]) := by
      unfold readS
      rw [if_pos h1, if_neg h2]
    show runO readS (d :: (ds ++ rest)) (rs, num) = _
    simp only [runO, e]
    rw [chk_run ds (num ++ [d]) rest h3, List.append_assoc]
    rfl
def numOk (k : Nat) : Bool := chk [] (TL.numL k) && (decide (NumText.digitsVal (TL.numL k) = k) && (decide (TL.numL k ≠ [49]) && decide (TL.numL k ≠ [])))
theorem num_all : ((List.range 1000).all fun k => decide (k < 2) || numOk k) = true := by kernel_rfl
theorem num_ok {k : Nat} (h1 : 2 ≤ k) (h2 : k ≤ 999) : chk [] (TL.numL k) = true ∧ NumText.digitsVal (TL.numL k) = k ∧ TL.numL k ≠ [49] ∧ TL.numL k ≠ [] := by
  have := List.all_eq_true.mp num_all k (List.mem_range.mpr (by omega))
  rw [decide_eq_false (by omega), Bool.false_or] at this
  simpa [numOk, Bool.and_eq_true, decide_eq_true_eq] using this
theorem read_part {rs : List (Nat × Int)} {r : Nat × Int} {rest : List Nat} (hf : r.1 ∉ figs) (h1 : 1 ≤ r.2) (h2 : r.2 ≤ 999) : runO readS (partF r ++ rest) (rs, []) = runO readS rest (rs ++ [r], []) := by
  obtain ⟨c, k⟩ := r
  replace h1 : 1 ≤ k := h1
  replace h2 : k ≤ 999 := h2
  replace hf : c ∉ figs := hf
  unfold partF
  by_cases q : 1 < k
  · obtain ⟨n1, n2, n3, n4⟩ := num_ok (k := k.toNat) (by omega) (by omega)
    rw [if_pos q, List.append_assoc]
    show runO readS (TL.numL k.toNat ++ ([c] ++ rest)) (rs, []) = _
    rw [chk_run _ _ _ n1]
    have e : readS (rs, [] ++ TL.numL k.toNat) c = some (rs ++ [(c, k)], []) := by
      unfold readS
      rw [if_neg hf]
      show (if TL.numL k.toNat = [49] then none else some (rs ++ [(c, if TL.numL k.toNat ≠ [] then ((NumText.digitsVal (TL.numL k.toNat) : Nat) : Int) else 1)], [])) = _
      rw [if_neg n3, if_pos n4, n2, show ((k.toNat : Nat) : Int) = k by omega]
    show runO readS (c :: rest) (rs, [] ++ TL.numL k.toNat) = _
    simp only [runO, e]
  · have e : readS (rs, []) c = some (rs ++ [(c, 1)], []) := by
      unfold readS
      rw [if_neg hf, if_neg (by simp)]
      rfl
    obtain rfl : k = 1 := by omega
    rw [if_neg q]
    show runO readS (c :: rest) (rs, []) = _
    simp only [runO, e]
theorem read_told (qs : List (Nat × Int)) (h : ∀ r ∈ qs, r.1 ∉ figs ∧ 1 ≤ r.2 ∧ r.2 ≤ 999) : readF (toldF qs) = some qs := by
  have main : ∀ (qs rs : List (Nat × Int)), (∀ r ∈ qs, r.1 ∉ figs ∧ 1 ≤ r.2 ∧ r.2 ≤ 999) → runO readS (toldF qs) (rs, []) = some (rs ++ qs, []) := fun qs => by
    induction qs with
    | nil => intro rs _; rw [List.append_nil]; rfl
    | cons r qs ih =>
      intro rs hq
      have e : toldF (r :: qs) = partF r ++ toldF qs := by simp [toldF]
      obtain ⟨a, b, c⟩ := hq r List.mem_cons_self
      rw [e, read_part a b c, ih _ fun x hx => hq x (List.mem_cons_of_mem _ hx), List.append_assoc]
      rfl
  unfold readF
  rw [main qs [] h]
  rfl
end Z

/-! Zs: how a mirror is run by rewriting: each part is met only when what stands ahead of it is known -/
namespace Z
open PySem PySem.Spec L2
section
variable {ρ ρ' : Rho} {h h1 h2 : Hc} {α β : Type}

/-! ### what follows what -/
def R.bin (op : D → D → Hc → R D) (r : R D) (f : Hc → R D) : R D := r.bind fun x h1 => (f h1).bind fun y h2 => op x y h2
def R.bin2 (op : D → D → Hc → R D) (x : D) (r : R D) : R D := r.bind fun y h2 => op x y h2
def R.cons (r : R D) (f : Hc → R (List D)) : R (List D) := r.bind fun x h1 => (f h1).bind fun xs h2 => .ok (x :: xs) h2
def R.cons2 (x : D) (r : R (List D)) : R (List D) := r.bind fun xs h2 => .ok (x :: xs) h2
def R.fn (k : D → Hc → R β) (r : R D) : R β := r.bind k
def R.fnL (k : List D → Hc → R β) (r : R (List D)) : R β := r.bind k
def R.iteE (r : R Bool) (a b : Hc → R β) : R β := r.bind fun x h1 => if x = true then a h1 else b h1
def R.and2 (r : R Bool) (f : Hc → R Bool) : R Bool := r.bind fun x h1 => if x = true then f h1 else .ok false h1
def R.or2 (r : R Bool) (f : Hc → R Bool) : R Bool := r.bind fun x h1 => if x = true then .ok true h1 else f h1
def R.andE (r : R D) (f : Hc → R D) : R D := r.bind fun x h1 => match x with
  | .bl true => f h1
  | .bl false => .ok (.bl false) h1
  | _ => .bad
def R.orE (r : R D) (f : Hc → R D) : R D := r.bind fun x h1 => match x with
  | .bl true => .ok (.bl true) h1
  | .bl false => f h1
  | _ => .bad
def kNeg (x : D) (h : Hc) : R D := match x with
  | .int i => .ok (.int (-i)) h
  | _ => .bad
def kNot (x : D) (h : Hc) : R D := match x with
  | .bl b => .ok (.bl (!b)) h
  | _ => .bad
def kIsN (neg : Bool) (x : D) (h : Hc) : R D := match x with
  | .non => .ok (.bl (!neg)) h
  | _ => .ok (.bl neg) h
def kIsNT (neg : Bool) (x : D) (h : Hc) : R Bool := match x with
  | .non => .ok (!neg) h
  | _ => .ok neg h
def kB (x : D) (h : Hc) : R Bool := match x with
  | .bl b => .ok b h
  | _ => .bad
def kTup (ds : List D) (h : Hc) : R D := if ds.length ≤ 16777216 then .ok (.tup ds) h else .bad
def kLst (ds : List D) (h : Hc) : R D := if ds.length ≤ 16777216 then .ok (.lst ds) h else .bad
def kAt (x : D) (h : Hc) : R (Option Int) := match x with
  | .int i => .ok (some i) h
  | _ => .bad
def kItems (d : D) (h : Hc) : R (List D) := match itemsD d with
  | some ds => .ok ds h
  | none => .bad
def kFmt (x : D) (h : Hc) : R D := match x with
  | .str s => if s.length ≤ 16777216 then .ok (.str s) h else .bad
  | .int i => if 0 ≤ i ∧ i < 2 ^ 64 then .ok (.str (numD i)) h else .bad
  | _ => .bad
def kCall (n : Nat) (m : FM) (xs : List D) (h : Hc) : R D := if xs.length = n then m xs h else .bad
def R.sl (r : R D) (lo hi : Hc → R (Option Int)) : R D := r.bind fun x h1 => (lo h1).bind fun l h2 => (hi h2).bind fun u h3 => slOp x l u h3
def R.sl2 (x : D) (r : R (Option Int)) (hi : Hc → R (Option Int)) : R D := r.bind fun l h2 => (hi h2).bind fun u h3 => slOp x l u h3
def R.sl3 (x : D) (l : Option Int) (r : R (Option Int)) : R D := r.bind fun u h3 => slOp x l u h3
def R.lc (t : Tg) (tt : TM) (em : EM) (ρ : Rho) (r : R (List D)) : R D := r.bind fun ds h1 => if ds.length ≤ 16777216 then (lcLoop t tt em ρ ds h1).bind fun ys h2 => .ok (.lst ys) h2 else .bad
def R.m1 (b : D → D → Hc → R D) (r : R D) (f : Hc → R D) : R D := r.bind fun x h1 => if isStr x then (f h1).bind fun y h2 => b x y h2 else .bad
def R.chain (o1 o2 : D → D → Hc → R D) (r : R D) (f g : Hc → R D) : R D := r.bind fun x h1 => (f h1).bind fun y h2 => (o1 x y h2).bind fun z h3 => match z with
  | .bl true => (g h3).bind fun w h4 => o2 y w h4
  | .bl false => .ok (.bl false) h3
  | _ => .bad
def R.chain2 (o1 o2 : D → D → Hc → R D) (x : D) (r : R D) (g : Hc → R D) : R D := r.bind fun y h2 => (o1 x y h2).bind fun z h3 => match z with
  | .bl true => (g h3).bind fun w h4 => o2 y w h4
  | .bl false => .ok (.bl false) h3
  | _ => .bad
def R.chain3 (o2 : D → D → Hc → R D) (y : D) (r : R D) (g : Hc → R D) : R D := r.bind fun z h3 => match z with
  | .bl true => (g h3).bind fun w h4 => o2 y w h4
  | .bl false => .ok (.bl false) h3
  | _ => .bad
def R.gen (t : Tg) (tt : TM) (em : EM) (k : List (D × Hc) → Hc → R β) (ρ : Rho) (r : R (List D)) : R β := r.bind fun ds h1 => if ds.length ≤ 16777216 then (match genL t tt em ρ ds h1 with
  | (yl, some hE) => k yl hE
  | _ => .bad) else .bad
def R.told (sub : Nat → Option Bool) (ret : List Nat) (r : R D) : R D := match r with
  | .ex c h' => if sub c = some true then .ok (.str ret) h' else .bad
  | r => r

@[simp] theorem get?_0 {a : α} {l : List α} : (a :: l)[0]? = some a := id rfl
@[simp] theorem get?_s {a : α} {l : List α} {i : Nat} : (a :: l)[i + 1]? = l[i]? := id rfl
/-! ### expressions -/
@[simp] theorem eC_ap {d : D} : eC d ρ h = .ok d h := id rfl
@[simp] theorem eVar_ap {i : Nat} : eVar i ρ h = match ρ[i]? with
  | some (.v d) => .ok d h
  | _ => .bad := id rfl
@[simp] theorem eLook_ap {i : Nat} : eLook i ρ h = match ρ[i]? with
  | some (.v d) => .ok d h
  | some (.o d) => .ok d h
  | _ => .bad := id rfl
@[simp] theorem eBin_ap {op} {a b : EM} : eBin op a b ρ h = R.bin op (a ρ h) (b ρ) := id rfl
@[simp] theorem R.bin_ok {op} {x : D} {f} : R.bin op (.ok x h) f = R.bin2 op x (f h) := id rfl
@[simp] theorem R.bin_ex {op} {c : Nat} {f} : R.bin op (.ex c h) f = .ex c h := id rfl
@[simp] theorem R.bin_bad {op} {f} : R.bin op .bad f = .bad := id rfl
@[simp] theorem R.bin2_ok {op} {x y : D} : R.bin2 op x (.ok y h) = op x y h := id rfl
@[simp] theorem R.bin2_ex {op} {c : Nat} {x : D} : R.bin2 op x (.ex c h) = .ex c h := id rfl
@[simp] theorem R.bin2_bad {op} {x : D} : R.bin2 op x .bad = .bad := id rfl
@[simp] theorem R.fn_ok {k : D → Hc → R β} {x : D} : R.fn k (.ok x h) = k x h := id rfl
@[simp] theorem R.fn_ex {k : D → Hc → R β} {c : Nat} : R.fn k (.ex c h) = .ex c h := id rfl
@[simp] theorem R.fn_bad {k : D → Hc → R β} : R.fn k .bad = .bad := id rfl
@[simp] theorem R.fnL_ok {k : List D → Hc → R β} {x : List D} : R.fnL k (.ok x h) = k x h := id rfl
@[simp] theorem R.fnL_ex {k : List D → Hc → R β} {c : Nat} : R.fnL k (.ex c h) = .ex c h := id rfl
@[simp] theorem R.fnL_bad {k : List D → Hc → R β} : R.fnL k .bad = .bad := id rfl
@[simp] theorem eNeg_ap {a : EM} : eNeg a ρ h = R.fn kNeg (a ρ h) := id rfl
@[simp] theorem kNeg_int {i : Int} : kNeg (.int i) h = .ok (.int (-i)) h := id rfl
@[simp] theorem eNot_ap {a : EM} : eNot a ρ h = R.fn kNot (a ρ h) := id rfl
@[simp] theorem kNot_bl {b : Bool} : kNot (.bl b) h = .ok (.bl (!b)) h := id rfl
@[simp] theorem eIsN_ap {n : Bool} {a : EM} : eIsN n a ρ h = R.fn (kIsN n) (a ρ h) := id rfl
@[simp] theorem kIsN_non {n : Bool} : kIsN n .non h = .ok (.bl (!n)) h := id rfl
@[simp] theorem kIsN_bl {n b : Bool} : kIsN n (.bl b) h = .ok (.bl n) h := id rfl
@[simp] theorem kIsN_int {n : Bool} {b : Int} : kIsN n (.int b) h = .ok (.bl n) h := id rfl
@[simp] theorem kIsN_str {n : Bool} {b : List Nat} : kIsN n (.str b) h = .ok (.bl n) h := id rfl
@[simp] theorem kIsN_tup {n : Bool} {b : List D} : kIsN n (.tup b) h = .ok (.bl n) h := id rfl
@[simp] theorem kIsN_lst {n : Bool} {b : List D} : kIsN n (.lst b) h = .ok (.bl n) h := id rfl
@[simp] theorem kIsNT_non {n : Bool} : kIsNT n .non h = .ok (!n) h := id rfl
@[simp] theorem kIsNT_bl {n b : Bool} : kIsNT n (.bl b) h = .ok n h := id rfl
@[simp] theorem kIsNT_int {n : Bool} {b : Int} : kIsNT n (.int b) h = .ok n h := id rfl
@[simp] theorem kIsNT_str {n : Bool} {b : List Nat} : kIsNT n (.str b) h = .ok n h := id rfl
@[simp] theorem kIsNT_tup {n : Bool} {b : List D} : kIsNT n (.tup b) h = .ok n h := id rfl
@[simp] theorem kIsNT_lst {n : Bool} {b : List D} : kIsNT n (.lst b) h = .ok n h := id rfl
@[simp] theorem tIsNM_ap {n : Bool} {a : EM} : tIsNM n a ρ h = R.fn (kIsNT n) (a ρ h) := id rfl
@[simp] theorem tB1_ap {a : EM} : tB1 a ρ h = R.fn kB (a ρ h) := id rfl
@[simp] theorem kB_bl {b : Bool} : kB (.bl b) h = .ok b h := id rfl
@[simp] theorem tNotM_ap {a : TM} : tNotM a ρ h = (a ρ h).bind fun b h1 => .ok (!b) h1 := id rfl
@[simp] theorem tYesM_ap : tYesM ρ h = .ok true h := id rfl
@[simp] theorem tAndM_ap {a b : TM} : tAndM a b ρ h = R.and2 (a ρ h) (b ρ) := id rfl
@[simp] theorem R.and2_ok {c : Bool} {f} : R.and2 (.ok c h) f = if c = true then f h else .ok false h := id rfl
@[simp] theorem R.and2_ex {c : Nat} {f} : R.and2 (.ex c h) f = .ex c h := id rfl
@[simp] theorem R.and2_bad {f} : R.and2 .bad f = .bad := id rfl
@[simp] theorem tOrM_ap {a b : TM} : tOrM a b ρ h = R.or2 (a ρ h) (b ρ) := id rfl
@[simp] theorem R.or2_ok {c : Bool} {f} : R.or2 (.ok c h) f = if c = true then .ok true h else f h := id rfl
@[simp] theorem R.or2_ex {c : Nat} {f} : R.or2 (.ex c h) f = .ex c h := id rfl
@[simp] theorem R.or2_bad {f} : R.or2 .bad f = .bad := id rfl
@[simp] theorem eAnd_ap {a b : EM} : eAnd a b ρ h = R.andE (a ρ h) (b ρ) := id rfl
@[simp] theorem R.andE_ok {c : Bool} {f} : R.andE (.ok (.bl c) h) f = if c = true then f h else .ok (.bl false) h := by cases c <;> rfl
@[simp] theorem R.andE_ex {c : Nat} {f} : R.andE (.ex c h) f = .ex c h := id rfl
@[simp] theorem R.andE_bad {f} : R.andE .bad f = .bad := id rfl
@[simp] theorem eOr_ap {a b : EM} : eOr a b ρ h = R.orE (a ρ h) (b ρ) := id rfl
@[simp] theorem R.orE_ok {c : Bool} {f} : R.orE (.ok (.bl c) h) f = if c = true then .ok (.bl true) h else f h := by cases c <;> rfl
@[simp] theorem R.orE_ex {c : Nat} {f} : R.orE (.ex c h) f = .ex c h := id rfl
@[simp] theorem R.orE_bad {f} : R.orE .bad f = .bad := id rfl
@[simp] theorem eIf_ap {t : TM} {a b : EM} : eIf t a b ρ h = R.iteE (t ρ h) (a ρ) (b ρ) := id rfl
@[simp] theorem R.iteE_ok {c : Bool} {a b : Hc → R β} : R.iteE (.ok c h) a b = if c = true then a h else b h := id rfl
@[simp] theorem R.iteE_ex {c : Nat} {a b : Hc → R β} : R.iteE (.ex c h) a b = .ex c h := id rfl
@[simp] theorem R.iteE_bad {a b : Hc → R β} : R.iteE .bad a b = .bad := id rfl
@[simp] theorem aNil_ap : aNil ρ h = .ok [] h := id rfl
@[simp] theorem aCons_ap {a : EM} {r : AM} : aCons a r ρ h = R.cons (a ρ h) (r ρ) := id rfl
@[simp] theorem R.cons_ok {x : D} {f} : R.cons (.ok x h) f = R.cons2 x (f h) := id rfl
@[simp] theorem R.cons_ex {c : Nat} {f} : R.cons (.ex c h) f = .ex c h := id rfl
@[simp] theorem R.cons_bad {f} : R.cons .bad f = .bad := id rfl
@[simp] theorem R.cons2_ok {x : D} {xs : List D} : R.cons2 x (.ok xs h) = .ok (x :: xs) h := id rfl
@[simp] theorem R.cons2_ex {c : Nat} {x : D} : R.cons2 x (.ex c h) = .ex c h := id rfl
@[simp] theorem R.cons2_bad {x : D} : R.cons2 x .bad = .bad := id rfl
@[simp] theorem eTup_ap {a : AM} : eTup a ρ h = R.fnL kTup (a ρ h) := id rfl
@[simp] theorem kTup_ok {ds : List D} (hl : ds.length ≤ 16777216) : kTup ds h = .ok (.tup ds) h := if_pos hl
@[simp] theorem eLst_ap {a : AM} : eLst a ρ h = R.fnL kLst (a ρ h) := id rfl
@[simp] theorem kLst_ok {ds : List D} (hl : ds.length ≤ 16777216) : kLst ds h = .ok (.lst ds) h := if_pos hl
@[simp] theorem eBi_ap {b : BM} {a : AM} : eBi b a ρ h = R.fnL b (a ρ h) := id rfl
@[simp] theorem eCall_ap {n : Nat} {m : FM} {a : AM} : eCall n m a ρ h = R.fnL (kCall n m) (a ρ h) := id rfl
@[simp] theorem kCall_ok {n : Nat} {m : FM} {xs : List D} (hl : xs.length = n) : kCall n m xs h = m xs h := if_pos hl
@[simp] theorem pNo_ap : pNo ρ h = .ok none h := id rfl
@[simp] theorem pAt_ap {a : EM} : pAt a ρ h = R.fn kAt (a ρ h) := id rfl
@[simp] theorem kAt_int {i : Int} : kAt (.int i) h = .ok (some i) h := id rfl
@[simp] theorem eSl_ap {a : EM} {lo hi : PM} : eSl a lo hi ρ h = R.sl (a ρ h) (lo ρ) (hi ρ) := id rfl
@[simp] theorem R.sl_ok {x : D} {lo hi} : R.sl (.ok x h) lo hi = R.sl2 x (lo h) hi := id rfl
@[simp] theorem R.sl_ex {c : Nat} {lo hi} : R.sl (.ex c h) lo hi = .ex c h := id rfl
@[simp] theorem R.sl2_ok {x : D} {l : Option Int} {hi} : R.sl2 x (.ok l h) hi = R.sl3 x l (hi h) := id rfl
@[simp] theorem R.sl3_ok {x : D} {l u : Option Int} : R.sl3 x l (.ok u h) = slOp x l u h := id rfl
@[simp] theorem eFmt_ap {a : EM} : eFmt a ρ h = R.fn kFmt (a ρ h) := id rfl
@[simp] theorem kFmt_str {s : List Nat} (hl : s.length ≤ 16777216) : kFmt (.str s) h = .ok (.str s) h := if_pos hl
@[simp] theorem kFmt_int {i : Int} (hl : 0 ≤ i ∧ i < 2 ^ 64) : kFmt (.int i) h = .ok (.str (numD i)) h := if_pos hl
@[simp] theorem eM1_ap {b} {o a : EM} : eM1 b o a ρ h = R.m1 b (o ρ h) (a ρ) := id rfl
@[simp] theorem R.m1_ok {b} {s : List Nat} {f} : R.m1 b (.ok (.str s) h) f = R.bin2 b (.str s) (f h) := id rfl
@[simp] theorem eChain_ap {o1 o2} {a b c : EM} : eChain o1 o2 a b c ρ h = R.chain o1 o2 (a ρ h) (b ρ) (c ρ) := id rfl
@[simp] theorem R.chain_ok {o1 o2} {x : D} {f g} : R.chain o1 o2 (.ok x h) f g = R.chain2 o1 o2 x (f h) g := id rfl
@[simp] theorem R.chain2_ok {o1 o2} {x y : D} {g} : R.chain2 o1 o2 x (.ok y h) g = R.chain3 o2 y (o1 x y h) g := id rfl
@[simp] theorem R.chain3_ok {o2} {y : D} {c : Bool} {g} : R.chain3 o2 y (.ok (.bl c) h) g = if c = true then R.bin2 o2 y (g h) else .ok (.bl false) h := by cases c <;> rfl
@[simp] theorem eLc_ap {t : Tg} {vs : List Nat} {im : IM} {tt : TM} {em : EM} : eLc t vs im tt em ρ h = R.lc t tt em (wipeR ρ vs) (im ρ h) := id rfl
@[simp] theorem eGen_ap {t : Tg} {vs : List Nat} {im : IM} {tt : TM} {em : EM} {k : List (D × Hc) → Hc → R β} : eGen t vs im tt em k ρ h = R.gen t tt em k (wipeR ρ vs) (im ρ h) := id rfl
@[simp] theorem eAny_ap {t : Tg} {vs : List Nat} {im : IM} {tt : TM} {em : EM} : eAny t vs im tt em ρ h = R.gen t tt em anyC (wipeR ρ vs) (im ρ h) := id rfl
@[simp] theorem eAll_ap {t : Tg} {vs : List Nat} {im : IM} {tt : TM} {em : EM} : eAll t vs im tt em ρ h = R.gen t tt em allC (wipeR ρ vs) (im ρ h) := id rfl
@[simp] theorem eTupG_ap {t : Tg} {vs : List Nat} {im : IM} {tt : TM} {em : EM} : eTupG t vs im tt em ρ h = R.gen t tt em tupC (wipeR ρ vs) (im ρ h) := id rfl
@[simp] theorem eSumG_ap {t : Tg} {vs : List Nat} {im : IM} {tt : TM} {em : EM} : eSumG t vs im tt em ρ h = R.gen t tt em (sumC 0) (wipeR ρ vs) (im ρ h) := id rfl
@[simp] theorem eTold_ap {sub} {ret : List Nat} {em : EM} : eTold sub ret em ρ h = R.told sub ret (em ρ h) := id rfl
@[simp] theorem R.told_ok {sub} {ret : List Nat} {x : D} : R.told sub ret (.ok x h) = .ok x h := id rfl
@[simp] theorem R.told_ex {sub} {ret : List Nat} {c : Nat} (hs : sub c = some true) : R.told sub ret (.ex c h) = .ok (.str ret) h := if_pos hs
@[simp] theorem wipeR_nil : wipeR ρ [] = ρ := id rfl
@[simp] theorem wipeR_cons {v : Nat} {vs : List Nat} : wipeR ρ (v :: vs) = (wipeR ρ vs).set v .u := id rfl
@[simp] theorem vE_ap {a : EM} : vE a ρ h = (a ρ h).bind fun d h1 => .ok (.v d) h1 := id rfl
@[simp] theorem vN_ap {a : EM} : vN a ρ h = (a ρ h).bind fun d h1 => .ok (.o d) h1 := id rfl

def kBox (d : D) (h : Hc) : R D := if d.nl then .ok (.ref h.length) (h ++ [.box d]) else .bad
@[simp] theorem eBox_ap {em : EM} : eBox em ρ h = R.fn kBox (em ρ h) := id rfl
@[simp] theorem kBox_ok {d : D} (e : d.nl = true) : kBox d h = .ok (.ref h.length) (h ++ [.box d]) := if_pos e
@[simp] theorem nl_lst {xs : List D} : (D.lst xs).nl = nls xs := id rfl
@[simp] theorem nl_int {i : Int} : (D.int i).nl = true := id rfl
@[simp] theorem nls_nil : nls [] = true := id rfl
@[simp] theorem nls_cons {x : D} {xs : List D} : nls (x :: xs) = (x.nl && nls xs) := id rfl
/-! ### what is gone through -/
@[simp] theorem iOf_ap {a : EM} : iOf a ρ h = R.fn kItems (a ρ h) := id rfl
@[simp] theorem kItems_lst {ds : List D} : kItems (.lst ds) h = .ok ds h := id rfl
@[simp] theorem kItems_tup {ds : List D} : kItems (.tup ds) h = .ok ds h := id rfl
@[simp] theorem kItems_scr {ds : List D} : kItems (.scr ds) h = .ok ds h := id rfl
@[simp] theorem kItems_str {s : List Nat} : kItems (.str s) h = .ok (s.map fun c => .str [c]) h := id rfl
def kR1 (xs : List D) (h : Hc) : R (List D) := match xs with
  | [.int j] => if -(2 ^ 62) ≤ j ∧ j < 2 ^ 62 then .ok (rngL 0 j.toNat) h else .bad
  | _ => .bad
def kR2 (xs : List D) (h : Hc) : R (List D) := match xs with
  | [.int i, .int j] => if -(2 ^ 62) ≤ i ∧ i < 2 ^ 62 ∧ -(2 ^ 62) ≤ j ∧ j < 2 ^ 62 then .ok (rngL i (j - i).toNat) h else .bad
  | _ => .bad
def kR3 (xs : List D) (h : Hc) : R (List D) := match xs with
  | [.int i, .int j, .int c] => if c ≠ 0 ∧ c.natAbs < 1073741824 ∧ Builtin.Range.small i j c = true ∧ 0 ≤ Builtin.Range.rangeSize i j c then .ok (rngC c i (Builtin.Range.rangeSize i j c).toNat) h else .bad
  | _ => .bad
def kZp (xs : List D) (h : Hc) : R (List D) := match xs with
  | [.lst ds, .lst es] => .ok (zipL ds es) h
  | [.tup ds, .tup es] => .ok (zipL ds es) h
  | _ => .bad
/-- lo, lo + 1 .. -/
def rgI (lo : Int) (n : Nat) : List Int := (List.range n).map fun k : Nat => lo + (k : Int)
theorem rngL_eq (n : Nat) : ∀ lo : Int, rngL lo n = (rgI lo n).map D.int := by
  induction n with
  | zero => intro lo; rfl
  | succ n ih =>
    intro lo
    show D.int lo :: rngL (lo + 1) n = _
    rw [ih]
    unfold rgI
    rw [List.range_succ_eq_map, List.map_cons, List.map_cons, List.map_map, List.map_map]
    congr 1
    · simp
    · rw [List.map_map]
      apply List.map_congr_left
      intro k _
      simp only [Function.comp, Nat.succ_eq_add_one]
      congr 1
      omega
theorem rgI_len (lo : Int) (n : Nat) : (rgI lo n).length = n := by simp [rgI]
theorem rgI_mem {lo x : Int} {n : Nat} : x ∈ rgI lo n ↔ lo ≤ x ∧ x < lo + n := by
  unfold rgI
  simp only [List.mem_map, List.mem_range]
  constructor
  · rintro ⟨k, h, rfl⟩; omega
  · intro h; exact ⟨(x - lo).toNat, by omega, by omega⟩
theorem rgI_get {lo : Int} {n i : Nat} (h : i < n) : (rgI lo n)[i]? = some (lo + i) := by
  unfold rgI
  rw [List.getElem?_map, List.getElem?_range h]
  rfl
theorem rgI_succ (lo : Int) (n : Nat) : rgI lo (n + 1) = rgI lo n ++ [lo + n] := by
  unfold rgI
  rw [List.range_succ, List.map_append]
  rfl
theorem rgI_cons (lo : Int) (n : Nat) : rgI lo (n + 1) = lo :: rgI (lo + 1) n := by
  have h := rngL_eq (n + 1) lo
  have h2 := rngL_eq n (lo + 1)
  have e : rngL lo (n + 1) = D.int lo :: rngL (lo + 1) n := rfl
  rw [e, h2] at h
  have inj : Function.Injective D.int := fun a b z => by cases z; rfl
  have : (lo :: rgI (lo + 1) n).map D.int = (rgI lo (n + 1)).map D.int := h
  exact ((List.map_inj_right inj).mp this).symm
@[simp] theorem iR1_ap {a : AM} : iR1 a ρ h = R.fnL kR1 (a ρ h) := id rfl
@[simp] theorem kR1_ok {j : Int} (hj : -(2 ^ 62) ≤ j ∧ j < 2 ^ 62) : kR1 [.int j] h = .ok ((rgI 0 j.toNat).map D.int) h := by
  rw [← rngL_eq]; exact if_pos hj
@[simp] theorem iR2_ap {a : AM} : iR2 a ρ h = R.fnL kR2 (a ρ h) := id rfl
@[simp] theorem kR2_ok {i j : Int} (hj : -(2 ^ 62) ≤ i ∧ i < 2 ^ 62 ∧ -(2 ^ 62) ≤ j ∧ j < 2 ^ 62) : kR2 [.int i, .int j] h = .ok ((rgI i (j - i).toNat).map D.int) h := by
  rw [← rngL_eq]; exact if_pos hj
@[simp] theorem iR3_ap {a : AM} : iR3 a ρ h = R.fnL kR3 (a ρ h) := id rfl
@[simp] theorem iZp_ap {a : AM} : iZp a ρ h = R.fnL kZp (a ρ h) := id rfl
@[simp] theorem kZp_lst {a b : List D} : kZp [.lst a, .lst b] h = .ok (zipL a b) h := id rfl
@[simp] theorem kZp_tup {a b : List D} : kZp [.tup a, .tup b] h = .ok (zipL a b) h := id rfl
theorem zipL_map {γ δ : Type} (f : γ → D) (g : δ → D) : ∀ (xs : List γ) (ys : List δ), zipL (xs.map f) (ys.map g) = (xs.zip ys).map fun p => .tup [f p.1, g p.2]
  | [], _ => by simp [zipL]
  | x :: xs, [] => by simp [zipL]
  | x :: xs, y :: ys => by simp [zipL, zipL_map f g xs ys]
@[simp] theorem iEnA_ap {a : AM} : iEnA a ρ h = R.fnL enD (a ρ h) := id rfl
theorem enumL_eq {γ : Type} (f : γ → D) : ∀ (xs : List γ) (k : Nat), enumL k (xs.map f) = (xs.zipIdx k).map fun p => .tup [.int p.2, f p.1]
  | [], _ => rfl
  | x :: xs, k => by simp [enumL, enumL_eq f xs (k + 1)]
@[simp] theorem enD_lst {γ : Type} {f : γ → D} {xs : List γ} : enD [.lst (xs.map f)] h = .ok ((xs.zipIdx 0).map fun p => .tup [.int p.2, f p.1]) h := by
  show R.ok (enumL 0 (xs.map f)) h = _
  rw [enumL_eq]
@[simp] theorem enD_tup {γ : Type} {f : γ → D} {xs : List γ} : enD [.tup (xs.map f)] h = .ok ((xs.zipIdx 0).map fun p => .tup [.int p.2, f p.1]) h := by
  show R.ok (enumL 0 (xs.map f)) h = _
  rw [enumL_eq]

/-! ### operators -/
@[simp] theorem opAdd_int {i j : Int} : opAdd (.int i) (.int j) h = .ok (.int (i + j)) h := id rfl
@[simp] theorem opAdd_ib {i : Int} {k : Bool} : opAdd (.int i) (.bl k) h = .ok (.int (i + if k then 1 else 0)) h := id rfl
@[simp] theorem opAdd_str {a b : List Nat} (hl : a.length + b.length ≤ 16777216) : opAdd (.str a) (.str b) h = .ok (.str (a ++ b)) h := if_pos hl
@[simp] theorem opAdd_tup {a b : List D} (hl : a.length + b.length ≤ 16777216) : opAdd (.tup a) (.tup b) h = .ok (.tup (a ++ b)) h := if_pos hl
@[simp] theorem opAdd_lst {a b : List D} (hl : a.length + b.length ≤ 16777216) : opAdd (.lst a) (.lst b) h = .ok (.lst (a ++ b)) h := if_pos hl
@[simp] theorem opSub_int {i j : Int} : opSub (.int i) (.int j) h = .ok (.int (i - j)) h := id rfl
@[simp] theorem opDiv_int {i j : Int} (hj : j ≠ 0 ∧ j.natAbs < 1073741824) : opDiv (.int i) (.int j) h = .ok (.int (i.fdiv j)) h := if_pos hj
@[simp] theorem opMod_int {i j : Int} (hj : j ≠ 0) : opMod (.int i) (.int j) h = .ok (.int (i.fmod j)) h := if_pos hj
@[simp] theorem opMul_int {i j : Int} (hb : (-(2 ^ 64) < i ∧ i < 2 ^ 64) ∨ (-(2 ^ 64) < j ∧ j < 2 ^ 64)) : opMul (.int i) (.int j) h = .ok (.int (i * j)) h := if_pos hb
@[simp] theorem opMul_str {a : List Nat} {n : Int} (hb : -1048576 ≤ n ∧ n ≤ 16777216 ∧ a.length * n.toNat ≤ 16777216) : opMul (.str a) (.int n) h = .ok (.str (repL a n)) h := if_pos hb
@[simp] theorem opMul_lst {a : List D} {n : Int} (hb : -1048576 ≤ n ∧ n ≤ 16777216 ∧ a.length * n.toNat ≤ 16777216) : opMul (.lst a) (.int n) h = .ok (.lst (repL a n)) h := if_pos hb
@[simp] theorem opPow_int {i j : Int} (hb : 0 ≤ j ∧ j ≤ 1000000 ∧ i.natAbs < 2 ^ 64) : opPow (.int i) (.int j) h = .ok (.int (i ^ j.toNat)) h := if_pos hb
@[simp] theorem opIAdd_int {i j : Int} : opIAdd (.int i) (.int j) h = .ok (.int (i + j)) h := id rfl
@[simp] theorem opIAdd_str {a b : List Nat} (hl : a.length + b.length ≤ 16777216) : opIAdd (.str a) (.str b) h = .ok (.str (a ++ b)) h := if_pos hl
@[simp] theorem opIMul_int {i j : Int} (hb : (-(2 ^ 64) < i ∧ i < 2 ^ 64) ∨ (-(2 ^ 64) < j ∧ j < 2 ^ 64)) : opIMul (.int i) (.int j) h = .ok (.int (i * j)) h := if_pos hb
@[simp] theorem opCmp_int {p q} {i j : Int} : opCmp p q (.int i) (.int j) h = .ok (.bl (p i j)) h := id rfl
@[simp] theorem opCmp_str {p q} {i j : List Nat} : opCmp p q (.str i) (.str j) h = .ok (.bl (q i j)) h := id rfl
/-- what is not a box -/
def nref : D → Bool
  | .ref _ => false
  | _ => true
theorem unbox_nref {d : D} (n : nref d = true) : unbox h d = d := by cases d <;> first | rfl | cases n
theorem opEq_ok {x y : D} (n : nref x = true) (m : nref y = true) (p : pl 12 x = true) (q : pl 12 y = true) : opEq x y h = .ok (.bl (x.eqv y)) h := by
  unfold opEq
  rw [unbox_nref n, unbox_nref m, p, q]
  rfl
theorem opNe_ok {x y : D} (n : nref x = true) (m : nref y = true) (p : pl 12 x = true) (q : pl 12 y = true) : opNe x y h = .ok (.bl (!x.eqv y)) h := by
  unfold opNe
  rw [unbox_nref n, unbox_nref m, p, q]
  rfl
@[simp] theorem opEq_int {i j : Int} : opEq (.int i) (.int j) h = .ok (.bl (decide (i = j))) h := id rfl
@[simp] theorem opEq_str {i j : List Nat} : opEq (.str i) (.str j) h = .ok (.bl (decide (i = j))) h := id rfl
@[simp] theorem opEq_bl {i j : Bool} : opEq (.bl i) (.bl j) h = .ok (.bl (i == j)) h := id rfl
@[simp] theorem opNe_int {i j : Int} : opNe (.int i) (.int j) h = .ok (.bl (!decide (i = j))) h := id rfl
@[simp] theorem opNe_str {i j : List Nat} : opNe (.str i) (.str j) h = .ok (.bl (!decide (i = j))) h := id rfl
@[simp] theorem opNe_bl {i j : Bool} : opNe (.bl i) (.bl j) h = .ok (.bl (!(i == j))) h := id rfl
@[simp] theorem opEq_tup {a b : List D} (p : pls 11 a = true) (q : pls 11 b = true) : opEq (.tup a) (.tup b) h = .ok (.bl (eqvs a b)) h := opEq_ok rfl rfl p q
@[simp] theorem opEq_lst {a b : List D} (p : pls 11 a = true) (q : pls 11 b = true) : opEq (.lst a) (.lst b) h = .ok (.bl (eqvs a b)) h := opEq_ok rfl rfl p q
@[simp] theorem opNe_tup {a b : List D} (p : pls 11 a = true) (q : pls 11 b = true) : opNe (.tup a) (.tup b) h = .ok (.bl (!eqvs a b)) h := opNe_ok rfl rfl p q
@[simp] theorem opNe_lst {a b : List D} (p : pls 11 a = true) (q : pls 11 b = true) : opNe (.lst a) (.lst b) h = .ok (.bl (!eqvs a b)) h := opNe_ok rfl rfl p q
@[simp] theorem pl_tup {n : Nat} {a : List D} : pl (n + 1) (.tup a) = pls n a := id rfl
@[simp] theorem pl_lst {n : Nat} {a : List D} : pl (n + 1) (.lst a) = pls n a := id rfl
@[simp] theorem pl_int {n : Nat} {i : Int} : pl n (.int i) = true := by cases n <;> rfl
@[simp] theorem pl_str {n : Nat} {i : List Nat} : pl n (.str i) = true := by cases n <;> rfl
@[simp] theorem pl_bl {n : Nat} {i : Bool} : pl n (.bl i) = true := by cases n <;> rfl
@[simp] theorem pl_non {n : Nat} : pl n .non = true := by cases n <;> rfl
@[simp] theorem pls_nil {n : Nat} : pls n [] = true := by cases n <;> rfl
@[simp] theorem pls_cons {n : Nat} {x : D} {xs : List D} : pls n (x :: xs) = (pl n x && pls n xs) := by cases n <;> rfl
@[simp] theorem pls_app {n : Nat} {xs ys : List D} : pls n (xs ++ ys) = (pls n xs && pls n ys) := by
  induction xs with
  | nil => simp
  | cons x xs ih => simp [ih, Bool.and_assoc]
@[simp] theorem pls_map {γ : Type} {n : Nat} {f : γ → D} {xs : List γ} : pls n (xs.map f) = xs.all fun a => pl n (f a) := by
  induction xs with
  | nil => simp
  | cons x xs ih => simp [ih]
@[simp] theorem eqvs_nil : eqvs [] [] = true := id rfl
@[simp] theorem eqvs_nc {y : D} {ys : List D} : eqvs [] (y :: ys) = false := id rfl
@[simp] theorem eqvs_cn {y : D} {ys : List D} : eqvs (y :: ys) [] = false := id rfl
@[simp] theorem eqvs_cons {x y : D} {xs ys : List D} : eqvs (x :: xs) (y :: ys) = (x.eqv y && eqvs xs ys) := id rfl
@[simp] theorem eqv_int {i j : Int} : (D.int i).eqv (.int j) = decide (i = j) := id rfl
@[simp] theorem eqv_str {i j : List Nat} : (D.str i).eqv (.str j) = decide (i = j) := id rfl
@[simp] theorem eqv_bl {i j : Bool} : (D.bl i).eqv (.bl j) = (i == j) := id rfl
@[simp] theorem eqv_tup {a b : List D} : (D.tup a).eqv (.tup b) = eqvs a b := id rfl
@[simp] theorem eqv_lst {a b : List D} : (D.lst a).eqv (.lst b) = eqvs a b := id rfl
/-- values told apart as what they stand for -/
def Faith {γ : Type} (f : γ → D) : Prop := ∀ a b, (f a).eqv (f b) = true ↔ a = b
theorem eqvs_map {γ : Type} {f : γ → D} (hf : Faith f) : ∀ xs ys : List γ, eqvs (xs.map f) (ys.map f) = true ↔ xs = ys
  | [], [] => by simp
  | [], y :: ys => by simp
  | x :: xs, [] => by simp
  | x :: xs, y :: ys => by simp [hf x y, eqvs_map hf xs ys]
theorem eqvs_dec {γ : Type} [DecidableEq γ] {f : γ → D} (hf : Faith f) (xs ys : List γ) : eqvs (xs.map f) (ys.map f) = decide (xs = ys) := by
  rw [Bool.eq_iff_iff, eqvs_map hf xs ys, decide_eq_true_eq]
@[simp] theorem eqvs_map_nil {γ : Type} {f : γ → D} {xs : List γ} : eqvs (xs.map f) [] = decide (xs = []) := by cases xs <;> simp
@[simp] theorem eqvs_nil_map {γ : Type} {f : γ → D} {xs : List γ} : eqvs [] (xs.map f) = decide (xs = []) := by cases xs <;> simp
theorem faith_int : Faith D.int := fun a b => by simp
theorem faith_str : Faith D.str := fun a b => by simp
def ixD (r : Option D) (h : Hc) : R D := match r with
  | some d => .ok d h
  | none => .bad
def ixS (r : Option Nat) (h : Hc) : R D := match r with
  | some c => .ok (.str [c]) h
  | none => .bad
@[simp] theorem ixD_some {d : D} : ixD (some d) h = .ok d h := id rfl
@[simp] theorem ixD_none : ixD none h = .bad := id rfl
@[simp] theorem ixS_some {c : Nat} : ixS (some c) h = .ok (.str [c]) h := id rfl
@[simp] theorem ixS_none : ixS none h = .bad := id rfl
@[simp] theorem opIx_lst {ds : List D} {i : Int} : opIx (.lst ds) (.int i) h = ixD (atI ds i) h := id rfl
@[simp] theorem opIx_tup {ds : List D} {i : Int} : opIx (.tup ds) (.int i) h = ixD (atI ds i) h := id rfl
@[simp] theorem opIx_str {s : List Nat} {i : Int} (hl : s.length ≤ 16777216) : opIx (.str s) (.int i) h = ixS (atI s i) h := if_pos hl
theorem atI_nat {xs : List α} {k : Nat} : atI xs (k : Int) = xs[k]? := by
  unfold atI ixN
  by_cases hk : k < xs.length
  · simp [hk]
  · simp [hk]
theorem atI_pos {xs : List α} {i : Int} (h0 : 0 ≤ i) : atI xs i = xs[i.toNat]? := by
  rw [← atI_nat, Int.toNat_of_nonneg h0]
@[simp] theorem atI_0 {x : α} {xs : List α} : atI (x :: xs) 0 = some x := by
  rw [atI_pos (by omega)]; rfl
@[simp] theorem atI_1 {x y : α} {xs : List α} : atI (x :: y :: xs) 1 = some y := by
  rw [atI_pos (by omega)]; rfl
@[simp] theorem atI_2 {x y z : α} {xs : List α} : atI (x :: y :: z :: xs) 2 = some z := by
  rw [atI_pos (by omega)]; rfl
@[simp] theorem atI_3 {x y z w : α} {xs : List α} : atI (x :: y :: z :: w :: xs) 3 = some w := by
  rw [atI_pos (by omega)]; rfl
theorem atI_map {f : α → β} {xs : List α} {i : Int} : atI (xs.map f) i = (atI xs i).map f := by
  unfold atI
  rw [List.length_map]
  cases ixN xs.length i with
  | none => rfl
  | some k => simp
theorem atI_last {xs : List α} {x : α} : atI (xs ++ [x]) (-1) = some x := by
  unfold atI ixN
  have e : ((xs ++ [x]).length : Int) = xs.length + 1 := by rw [List.length_append]; rfl
  rw [if_neg (by omega), if_pos (by omega)]
  show (xs ++ [x])[(-1 + ((xs ++ [x]).length : Int)).toNat]? = some x
  rw [e, show (-1 + ((xs.length : Int) + 1)).toNat = xs.length by omega]
  simp
@[simp] theorem slOp_lst {ds : List D} {lo hi : Option Int} : slOp (.lst ds) lo hi h = .ok (.lst (cutL ds lo hi)) h := id rfl
@[simp] theorem slOp_scr {ds : List D} {lo hi : Option Int} : slOp (.scr ds) lo hi h = .ok (.lst (cutL ds lo hi)) h := id rfl
@[simp] theorem slOp_tup {ds : List D} {lo hi : Option Int} : slOp (.tup ds) lo hi h = .ok (.tup (cutL ds lo hi)) h := id rfl
@[simp] theorem slOp_str {s : List Nat} {lo hi : Option Int} (hl : s.length ≤ 16777216) : slOp (.str s) lo hi h = .ok (.str (cutL s lo hi)) h := if_pos hl
theorem cutL_map {f : α → β} {xs : List α} {lo hi : Option Int} : cutL (xs.map f) lo hi = (cutL xs lo hi).map f := by
  unfold cutL
  rw [List.length_map, List.map_take, List.map_drop]
theorem sIx_pos {n d : Nat} {i : Int} (h : 0 ≤ i) : HT.sIx n d (some i) = min i.toNat n := by
  simp only [HT.sIx]
  repeat' split
  all_goals omega
theorem cutL_hi {xs : List α} {i : Int} (h : 0 ≤ i) : cutL xs none (some i) = xs.take i.toNat := by
  unfold cutL
  rw [sIx_pos h]
  simp only [HT.sIx, List.drop_zero, Nat.sub_zero]
  rw [List.take_eq_take_iff]
  omega
theorem cutL_lo {xs : List α} {i : Int} (h : 0 ≤ i) : cutL xs (some i) none = xs.drop i.toNat := by
  unfold cutL
  rw [sIx_pos h]
  simp only [HT.sIx]
  by_cases q : i.toNat ≤ xs.length
  · rw [Nat.min_eq_left q]
    apply List.take_of_length_le
    rw [List.length_drop]
    omega
  · rw [Nat.min_eq_right (by omega), List.drop_of_length_le (Nat.le_refl _), List.drop_of_length_le (by omega)]
    simp
theorem cutL_lohi {xs : List α} {i j : Int} (h : 0 ≤ i) (h2 : 0 ≤ j) : cutL xs (some i) (some j) = (xs.take j.toNat).drop i.toNat := by
  unfold cutL
  rw [sIx_pos h, sIx_pos h2, List.drop_take]
  by_cases q : i.toNat ≤ xs.length
  · rw [Nat.min_eq_left q]
    by_cases q2 : j.toNat ≤ xs.length
    · rw [Nat.min_eq_left q2]
    · rw [Nat.min_eq_right (by omega), List.take_of_length_le (by rw [List.length_drop]; omega), List.take_of_length_le (by rw [List.length_drop]; omega)]
  · rw [Nat.min_eq_right (by omega : xs.length ≤ i.toNat), List.drop_of_length_le (Nat.le_refl _), List.drop_of_length_le (by omega)]
    simp
theorem cutL_init {xs : List α} {x : α} : cutL (xs ++ [x]) none (some (-1)) = xs := by
  have e : HT.sIx (xs ++ [x]).length (xs ++ [x]).length (some (-1)) = xs.length := by
    simp [HT.sIx]
    try omega
  unfold cutL
  rw [e]
  simp [HT.sIx]
theorem cutL_len {xs : List α} {lo hi : Option Int} : (cutL xs lo hi).length ≤ xs.length := by
  unfold cutL
  rw [List.length_take, List.length_drop]
  omega
@[simp] theorem opIn_str {c : Nat} {z : List Nat} : opIn (.str [c]) (.str z) h = .ok (.bl (decide (c ∈ z))) h := id rfl
@[simp] theorem opNotIn_str {c : Nat} {z : List Nat} : opNotIn (.str [c]) (.str z) h = .ok (.bl (!decide (c ∈ z))) h := id rfl
@[simp] theorem opIn_int_lst {i : Int} {ds : List D} (p : pls 11 ds = true) : opIn (.int i) (.lst ds) h = .ok (.bl (anyEq (.int i) ds)) h := by
  show (if pl 12 (.int i) && pls 11 ds then R.ok (D.bl (anyEq (.int i) ds)) h else .bad) = _
  rw [p]; rfl
@[simp] theorem opIn_tup_lst {i : List D} {ds : List D} (q : pls 11 i = true) (p : pls 11 ds = true) : opIn (.tup i) (.lst ds) h = .ok (.bl (anyEq (.tup i) ds)) h := by
  show (if pl 12 (.tup i) && pls 11 ds then R.ok (D.bl (anyEq (.tup i) ds)) h else .bad) = _
  rw [p, pl_tup, q]; rfl
@[simp] theorem opIn_int_tup {i : Int} {ds : List D} (p : ds.all flatD = true) : opIn (.int i) (.tup ds) h = .ok (.bl (anyEq (.int i) ds)) h := by
  show (if flatD (.int i) && ds.all flatD then R.ok (D.bl (anyEq (.int i) ds)) h else .bad) = _
  rw [p]; rfl
@[simp] theorem anyEq_nil {x : D} : anyEq x [] = false := id rfl
@[simp] theorem anyEq_cons {x y : D} {ys : List D} : anyEq x (y :: ys) = (y.eqv x || anyEq x ys) := id rfl
@[simp] theorem flatD_int {i : Int} : flatD (.int i) = true := id rfl
@[simp] theorem flatD_str {i : List Nat} : flatD (.str i) = true := id rfl
@[simp] theorem anyEq_ints {i : Int} {xs : List Int} : anyEq (.int i) (xs.map D.int) = decide (i ∈ xs) := by
  unfold anyEq
  rw [Bool.eq_iff_iff]
  simp only [List.any_map, List.any_eq_true, Function.comp, eqv_int, decide_eq_true_eq]
  constructor
  · rintro ⟨x, h, rfl⟩; exact h
  · exact fun h => ⟨i, h, rfl⟩

/-! ### functions that are built in -/
@[simp] theorem bLen_lst {ds : List D} : bLen [.lst ds] h = .ok (.int ds.length) h := id rfl
@[simp] theorem bLen_tup {ds : List D} : bLen [.tup ds] h = .ok (.int ds.length) h := id rfl
@[simp] theorem bLen_str {s : List Nat} (hl : s.length ≤ 16777216) : bLen [.str s] h = .ok (.int s.length) h := if_pos hl
@[simp] theorem bInt_int {i : Int} : bInt [.int i] h = .ok (.int i) h := id rfl
@[simp] theorem bInt_bl {k : Bool} : bInt [.bl k] h = .ok (.int (if k then 1 else 0)) h := id rfl
theorem bInt_str {s : List Nat} (n : s ≠ []) (hl : s.length ≤ 640) (d : ∀ c ∈ s, 48 ≤ c ∧ c ≤ 57) : bInt [.str s] h = .ok (.int (NumText.digitsVal s : Nat)) h :=
  if_pos ⟨n, hl, by rw [List.all_eq_true]; intro c hc; simp [d c hc]⟩
@[simp] theorem bAbs_int {i : Int} : bAbs [.int i] h = .ok (.int (if i < 0 then -i else i)) h := id rfl
@[simp] theorem bMin2_int {i j : Int} : bMin2 [.int i, .int j] h = .ok (.int (if j < i then j else i)) h := id rfl
@[simp] theorem bMax2_int {i j : Int} : bMax2 [.int i, .int j] h = .ok (.int (if j > i then j else i)) h := id rfl
@[simp] theorem ints?_map {γ : Type} {f : γ → Int} {xs : List γ} : ints? (xs.map fun a => D.int (f a)) = some (xs.map f) := by
  induction xs with
  | nil => rfl
  | cons x xs ih => simp [ints?, ih]
@[simp] theorem ints?_comp {γ : Type} {f : γ → Int} {xs : List γ} : ints? (xs.map (D.int ∘ f)) = some (xs.map f) := ints?_map
@[simp] theorem ints?_int {xs : List Int} : ints? (xs.map D.int) = some xs := by
  have := ints?_map (f := fun a : Int => a) (xs := xs)
  simpa using this
def sumR (r : Option (List Int)) (h : Hc) : R D := match r with
  | some ns => .ok (.int ns.sum) h
  | none => .bad
@[simp] theorem sumR_some {ns : List Int} : sumR (some ns) h = .ok (.int ns.sum) h := id rfl
@[simp] theorem bSumA_lst {ds : List D} : bSumA [.lst ds] h = sumR (ints? ds) h := id rfl
@[simp] theorem bSumA_tup {ds : List D} : bSumA [.tup ds] h = sumR (ints? ds) h := id rfl
@[simp] theorem ints?_nil : ints? [] = some [] := id rfl
@[simp] theorem ints?_cons {i : Int} {ds : List D} : ints? (.int i :: ds) = (ints? ds).map (i :: ·) := id rfl
@[simp] theorem strs?_nil : strs? [] = some [] := id rfl
@[simp] theorem strs?_cons {i : List Nat} {ds : List D} : strs? (.str i :: ds) = (strs? ds).map (i :: ·) := id rfl
theorem bMax_lst {ds : List D} {ns : List Int} (e : ints? ds = some ns) (p : 0 < ns.length) : bMax [.lst ds] h = .ok (.int (maxI ns)) h := by
  show (match ints? ds with | some ns => if 0 < ns.length then R.ok (D.int (maxI ns)) h else .bad | none => .bad) = _
  rw [e]; exact if_pos p
theorem bMin_lst {ds : List D} {ns : List Int} (e : ints? ds = some ns) (p : 0 < ns.length) : bMin [.lst ds] h = .ok (.int (minI ns)) h := by
  show (match ints? ds with | some ns => if 0 < ns.length then R.ok (D.int (minI ns)) h else .bad | none => .bad) = _
  rw [e]; exact if_pos p
@[simp] theorem bList_lst {ds : List D} : bList [.lst ds] h = .ok (.lst ds) h := id rfl
@[simp] theorem bList_tup {ds : List D} : bList [.tup ds] h = .ok (.lst ds) h := id rfl
@[simp] theorem bTuple_lst {ds : List D} : bTuple [.lst ds] h = .ok (.tup ds) h := id rfl
@[simp] theorem bTuple_tup {ds : List D} : bTuple [.tup ds] h = .ok (.tup ds) h := id rfl
@[simp] theorem bStr_int {i : Int} (hl : 0 ≤ i ∧ i < 2 ^ 64) : bStr [.int i] h = .ok (.str (numD i)) h := if_pos hl
@[simp] theorem strs?_map {γ : Type} {f : γ → List Nat} {xs : List γ} : strs? (xs.map fun a => D.str (f a)) = some (xs.map f) := by
  induction xs with
  | nil => rfl
  | cons x xs ih => simp [strs?, ih]
@[simp] theorem strs?_comp {γ : Type} {f : γ → List Nat} {xs : List γ} : strs? (xs.map (D.str ∘ f)) = some (xs.map f) := strs?_map
@[simp] theorem strs?_str {xs : List (List Nat)} : strs? (xs.map D.str) = some xs := by
  have := strs?_map (f := fun a : List Nat => a) (xs := xs)
  simpa using this
theorem joinL_nil : ∀ ps : List (List Nat), TL.joinL [] ps = ps.flatten
  | [] => rfl
  | [p] => by simp [TL.joinL]
  | p :: q :: r => by
    have ih := joinL_nil (q :: r)
    simp only [TL.joinL, ih, List.flatten_cons, List.nil_append]
theorem mJoin_ok {ds : List D} {ps : List (List Nat)} (e : strs? ds = some ps) (hl : (ps.map List.length).sum ≤ 16777216) : mJoin (.str []) (.lst ds) h = .ok (.str ps.flatten) h := by
  show (match strs? ds with | some ps => if (ps.map List.length).sum + ps.length * 0 ≤ 16777216 then R.ok (D.str (TL.joinL [] ps)) h else .bad | none => .bad) = _
  rw [e]
  show (if (ps.map List.length).sum + ps.length * 0 ≤ 16777216 then R.ok (D.str (TL.joinL [] ps)) h else .bad) = _
  rw [joinL_nil]
  exact if_pos (by simpa using hl)

/-! ### statements -/
def O.andThen (o : O) (k : Rho → Hc → O) : O := match o with
  | .nx ρ' h' => k ρ' h'
  | o => o
def R.st (r : R α) (ρ : Rho) (k : α → Hc → O) : O := r.toS ρ k
def O.br (r : R Bool) (ρ : Rho) (a b : SM) : O := r.toS ρ fun c h1 => if c = true then a ρ h1 else b ρ h1
def O.put (i : Nat) (ρ : Rho) (r : R D) : O := r.toS ρ fun d h1 => .nx (ρ.set i (.v d)) h1
def O.putN (i : Nat) (ρ : Rho) (r : R D) : O := r.toS ρ fun d h1 => .nx (ρ.set i (.o d)) h1
def O.ret (ρ : Rho) (r : R D) : O := r.toS ρ fun d h1 => .rt d h1
def O.for (t : Tg) (b : SM) (ρ : Rho) (r : R (List D)) : O := r.toS ρ fun ds h1 => loopM t b ds ρ h1
@[simp] theorem sSeq_ap {a b : SM} : sSeq a b ρ h = (a ρ h).andThen b := by
  show (match a ρ h with | .nx ρ' h' => b ρ' h' | o => o) = _
  cases a ρ h <;> rfl
@[simp] theorem O.andThen_nx {k : SM} : (O.nx ρ h).andThen k = k ρ h := id rfl
@[simp] theorem O.andThen_rt {k : SM} {d : D} : (O.rt d h).andThen k = .rt d h := id rfl
@[simp] theorem O.andThen_bk {k : SM} : (O.bk ρ h).andThen k = .bk ρ h := id rfl
@[simp] theorem O.andThen_ct {k : SM} : (O.ct ρ h).andThen k = .ct ρ h := id rfl
@[simp] theorem O.andThen_ex {k : SM} {c : Nat} : (O.ex c ρ h).andThen k = .ex c ρ h := id rfl
@[simp] theorem O.andThen_bad {k : SM} : O.bad.andThen k = .bad := id rfl
@[simp] theorem O.andThen_ite {k : SM} {c : Prop} [Decidable c] {a b : O} : (if c then a else b).andThen k = if c then a.andThen k else b.andThen k := by split <;> rfl
@[simp] theorem O.toR_nx : (O.nx ρ h).toR = .ok .non h := id rfl
@[simp] theorem O.toR_rt {d : D} : (O.rt d h).toR = .ok d h := id rfl
@[simp] theorem O.toR_ex {c : Nat} : (O.ex c ρ h).toR = .ex c h := id rfl
@[simp] theorem O.toR_ite {c : Prop} [Decidable c] {a b : O} : (if c then a else b).toR = if c then a.toR else b.toR := by split <;> rfl
@[simp] theorem sNx_ap : sNx ρ h = .nx ρ h := id rfl
@[simp] theorem sBk_ap : sBk ρ h = .bk ρ h := id rfl
@[simp] theorem sCt_ap : sCt ρ h = .ct ρ h := id rfl
@[simp] theorem sRetN_ap : sRetN ρ h = .rt .non h := id rfl
@[simp] theorem sRaise_ap {c : Nat} : sRaise c ρ h = .ex c ρ h := id rfl
@[simp] theorem sDo_ap {em : EM} : sDo em ρ h = R.toS (em ρ h) ρ fun _ h1 => .nx ρ h1 := id rfl
@[simp] theorem sRet_ap {em : EM} : sRet em ρ h = O.ret ρ (em ρ h) := id rfl
@[simp] theorem O.ret_ok {d : D} : O.ret ρ (.ok d h) = .rt d h := id rfl
@[simp] theorem O.ret_ex {c : Nat} : O.ret ρ (.ex c h) = .ex c ρ h := id rfl
@[simp] theorem O.ret_bad : O.ret ρ .bad = .bad := id rfl
@[simp] theorem sIf_ap {t : TM} {a b : SM} : sIf t a b ρ h = O.br (t ρ h) ρ a b := id rfl
@[simp] theorem O.br_ok {c : Bool} {a b : SM} : O.br (.ok c h) ρ a b = if c = true then a ρ h else b ρ h := id rfl
@[simp] theorem O.br_ex {c : Nat} {a b : SM} : O.br (.ex c h) ρ a b = .ex c ρ h := id rfl
@[simp] theorem O.br_bad {a b : SM} : O.br .bad ρ a b = .bad := id rfl
@[simp] theorem sSet_ap {i : Nat} {em : EM} : sSet i em ρ h = O.put i ρ (em ρ h) := id rfl
@[simp] theorem O.put_ok {i : Nat} {d : D} : O.put i ρ (.ok d h) = .nx (ρ.set i (.v d)) h := id rfl
@[simp] theorem O.put_ex {i : Nat} {c : Nat} : O.put i ρ (.ex c h) = .ex c ρ h := id rfl
@[simp] theorem O.put_bad {i : Nat} : O.put i ρ .bad = .bad := id rfl
@[simp] theorem sSetN_ap {i : Nat} {em : EM} : sSetN i em ρ h = O.putN i ρ (em ρ h) := id rfl
@[simp] theorem O.putN_ok {i : Nat} {d : D} : O.putN i ρ (.ok d h) = .nx (ρ.set i (.o d)) h := id rfl
@[simp] theorem O.putN_ex {i : Nat} {c : Nat} : O.putN i ρ (.ex c h) = .ex c ρ h := id rfl
@[simp] theorem O.putN_bad {i : Nat} : O.putN i ρ .bad = .bad := id rfl
@[simp] theorem sFz_ap {i : Nat} {s : SM} : sFz i s ρ h = match ρ[i]? with
  | some (.o d) => s (ρ.set i (.v d)) h
  | some (.v _) => s ρ h
  | _ => .bad := id rfl
@[simp] theorem sTg_ap {t : Tg} {em : EM} : sTg t em ρ h = R.toS (em ρ h) ρ fun d h1 => match bindD t d ρ with
  | some ρ' => .nx ρ' h1
  | none => .bad := id rfl
@[simp] theorem bindD_n {i : Nat} {d : D} : bindD (.n i) d ρ = some (ρ.set i (.v d)) := id rfl
@[simp] theorem bindD_t {ts : List Tg} {ds : List D} (hl : ts.length = ds.length) : bindD (.t ts) (.tup ds) ρ = bindDs ts ds ρ := if_pos hl
@[simp] theorem bindDs_nil : bindDs [] [] ρ = some ρ := id rfl
@[simp] theorem bindDs_cons {t : Tg} {ts : List Tg} {d : D} {ds : List D} : bindDs (t :: ts) (d :: ds) ρ = match bindD t d ρ with
    | some ρ' => bindDs ts ds ρ'
    | none => none := id rfl
@[simp] theorem loopM_nil {t : Tg} {b : SM} : loopM t b [] ρ h = .nx ρ h := id rfl
def O.turn (t : Tg) (b : SM) (ds : List D) (o : O) : O := match o with
  | .nx ρ2 h2 => loopM t b ds ρ2 h2
  | .ct ρ2 h2 => loopM t b ds ρ2 h2
  | .bk ρ2 h2 => .nx ρ2 h2
  | o => o
theorem loopM_cons {t : Tg} {b : SM} {d : D} {ds : List D} {ρ1 : Rho} (e : bindD t d ρ = some ρ1) : loopM t b (d :: ds) ρ h = O.turn t b ds (b ρ1 h) := by
  simp only [loopM, e]
  cases b ρ1 h <;> rfl
theorem loopM_ref {b : SM} {i n : Nat} {ds : List D} : loopM (.n i) b (.ref n :: ds) ρ h = O.turn (.n i) b ds (b (ρ.set i (.v (.ref n))) h) := loopM_cons rfl
def O.last (o : O) : O := match o with
  | .nx ρ2 h2 => .nx ρ2 h2
  | .ct ρ2 h2 => .nx ρ2 h2
  | .bk ρ2 h2 => .nx ρ2 h2
  | o => o
@[simp] theorem O.last_nx : O.last (.nx ρ h) = .nx ρ h := id rfl
@[simp] theorem O.last_ct : O.last (.ct ρ h) = .nx ρ h := id rfl
@[simp] theorem O.last_bk : O.last (.bk ρ h) = .nx ρ h := id rfl
theorem loopM_one {b : SM} {i n : Nat} : loopM (.n i) b [.ref n] ρ h = O.last (b (ρ.set i (.v (.ref n))) h) := by
  rw [loopM_ref]
  cases b (ρ.set i (.v (.ref n))) h <;> rfl
@[simp] theorem O.turn_nx {t : Tg} {b : SM} {ds : List D} : O.turn t b ds (.nx ρ h) = loopM t b ds ρ h := id rfl
@[simp] theorem sFor_ap {t : Tg} {im : IM} {b : SM} : sFor t im b ρ h = O.for t b ρ (im ρ h) := id rfl
@[simp] theorem O.for_ok {t : Tg} {b : SM} {ds : List D} : O.for t b ρ (.ok ds h) = loopM t b ds ρ h := id rfl
@[simp] theorem O.for_ex {t : Tg} {b : SM} {c : Nat} : O.for t b ρ (.ex c h) = .ex c ρ h := id rfl
def O.par1 (i j : Nat) (ρ : Rho) (r : R Sl) (f : Hc → R Sl) : O := r.toS ρ fun x h1 => (f h1).toS ρ fun y h2 => .nx ((ρ.set i x).set j y) h2
def O.par2 (i j : Nat) (ρ : Rho) (x : Sl) (r : R Sl) : O := r.toS ρ fun y h2 => .nx ((ρ.set i x).set j y) h2
@[simp] theorem sPar_ap {i j : Nat} {a b : VM} : sPar i j a b ρ h = O.par1 i j ρ (a ρ h) (b ρ) := id rfl
@[simp] theorem O.par1_ok {i j : Nat} {x : Sl} {f} : O.par1 i j ρ (.ok x h) f = O.par2 i j ρ x (f h) := id rfl
@[simp] theorem O.par2_ok {i j : Nat} {x y : Sl} : O.par2 i j ρ x (.ok y h) = .nx ((ρ.set i x).set j y) h := id rfl
def O.tri1 (i j l : Nat) (ρ : Rho) (r : R D) (f g : Hc → R D) : O := r.toS ρ fun x h1 => (f h1).toS ρ fun y h2 => (g h2).toS ρ fun z h3 => .nx (((ρ.set i (.v x)).set j (.v y)).set l (.v z)) h3
def O.tri2 (i j l : Nat) (ρ : Rho) (x : D) (r : R D) (g : Hc → R D) : O := r.toS ρ fun y h2 => (g h2).toS ρ fun z h3 => .nx (((ρ.set i (.v x)).set j (.v y)).set l (.v z)) h3
def O.tri3 (i j l : Nat) (ρ : Rho) (x y : D) (r : R D) : O := r.toS ρ fun z h3 => .nx (((ρ.set i (.v x)).set j (.v y)).set l (.v z)) h3
@[simp] theorem sPar3_ap {i j l : Nat} {a b c : EM} : sPar3 i j l a b c ρ h = O.tri1 i j l ρ (a ρ h) (b ρ) (c ρ) := id rfl
@[simp] theorem O.tri1_ok {i j l : Nat} {x : D} {f g} : O.tri1 i j l ρ (.ok x h) f g = O.tri2 i j l ρ x (f h) g := id rfl
@[simp] theorem O.tri2_ok {i j l : Nat} {x y : D} {g} : O.tri2 i j l ρ x (.ok y h) g = O.tri3 i j l ρ x y (g h) := id rfl
@[simp] theorem O.tri3_ok {i j l : Nat} {x y z : D} : O.tri3 i j l ρ x y (.ok z h) = .nx (((ρ.set i (.v x)).set j (.v y)).set l (.v z)) h := id rfl
def O.aug (i : Nat) (op : D → D → Hc → R D) (ρ : Rho) (s : Option Sl) (f : Hc → R D) (h : Hc) : O := match s with
  | some (.v x) => (f h).toS ρ fun y h1 => (op x y h1).toS ρ fun z h2 => .nx (ρ.set i (.v z)) h2
  | _ => .bad
@[simp] theorem sAug_ap {i : Nat} {op} {em : EM} : sAug i op em ρ h = O.aug i op ρ ρ[i]? (em ρ) h := by
  unfold sAug O.aug
  rfl
def O.aug2 (i : Nat) (op : D → D → Hc → R D) (ρ : Rho) (x : D) (r : R D) : O := r.toS ρ fun y h1 => O.put i ρ (op x y h1)
@[simp] theorem O.aug_v {i : Nat} {op} {x : D} {f} : O.aug i op ρ (some (.v x)) f h = O.aug2 i op ρ x (f h) := id rfl
@[simp] theorem O.aug2_ok {i : Nat} {op} {x y : D} : O.aug2 i op ρ x (.ok y h) = O.put i ρ (op x y h) := id rfl
@[simp] theorem held_o {i : Nat} {d : D} (e : ρ[i]? = some (.o d)) : held ρ h i = d := by unfold held; rw [e]
@[simp] theorem isL_lst {ds : List D} : isL (.lst ds) = true := id rfl
/-! ### held lists -/
def O.wmR (i : Nat) (ρ : Rho) (h : Hc) (r : Option (List D × D)) : O := match r with
  | some (ds', _) => .nx (ρ.set i (.o (.lst ds'))) h
  | none => .bad
def O.wmD (b : WM) (i : Nat) (ρ : Rho) (ds : List D) (r : R (List D)) : O := r.toS ρ fun xs h1 => O.wmR i ρ h1 (b ds xs)
def O.wmS (b : WM) (i : Nat) (am : AM) (ρ : Rho) (h : Hc) (s : Option Sl) : O := match s with
  | some (.o (.lst ds)) => O.wmD b i ρ ds (am ρ h)
  | _ => if isL (held ρ h i) then (am ρ h).toS ρ fun xs h1 => mLst ρ h1 i b xs fun _ ρ h => .nx ρ h else .bad
@[simp] theorem sWm_ap {b : WM} {i : Nat} {am : AM} : sWm b i am ρ h = O.wmS b i am ρ h ρ[i]? := by
  unfold O.wmS
  split
  · rename_i ds e
    unfold sWm O.wmD
    rw [held_o e, isL_lst, if_pos rfl]
    cases am ρ h with
    | ok xs h1 =>
      show mLst ρ h1 i b xs _ = O.wmR i ρ h1 (b ds xs)
      unfold mLst O.wmR
      rw [held_o e]
      cases q : b ds xs with
      | none => simp only [q]
      | some p =>
        obtain ⟨ds', w⟩ := p
        simp only [q]
        unfold Z.put
        rw [e]
    | ex c h1 => rfl
    | bad => rfl
  · rfl
@[simp] theorem O.wmS_o {b : WM} {i : Nat} {am : AM} {ds : List D} : O.wmS b i am ρ h (some (.o (.lst ds))) = O.wmD b i ρ ds (am ρ h) := id rfl
@[simp] theorem O.wmD_ok {b : WM} {i : Nat} {ds xs : List D} : O.wmD b i ρ ds (.ok xs h) = O.wmR i ρ h (b ds xs) := id rfl
@[simp] theorem O.wmD_ex {b : WM} {i : Nat} {ds : List D} {c : Nat} : O.wmD b i ρ ds (.ex c h) = .ex c ρ h := id rfl
@[simp] theorem O.wmR_some {i : Nat} {ds : List D} {w : D} : O.wmR i ρ h (some (ds, w)) = .nx (ρ.set i (.o (.lst ds))) h := id rfl
@[simp] theorem wAppend_ok {ds : List D} {x : D} (hl : ds.length < 16777216) : wAppend ds [x] = some (ds ++ [x], .non) := if_pos hl
def O.extR (i : Nat) (ρ : Rho) (h : Hc) (ds : List D) (r : Option (List D)) : O := match r with
  | some es => if ds.length + es.length ≤ 16777216 then .nx (ρ.set i (.o (.lst (ds ++ es)))) h else .bad
  | none => .bad
def O.extD (i : Nat) (ρ : Rho) (ds : List D) (r : R D) : O := r.toS ρ fun y h1 => O.extR i ρ h1 ds (itemsL h1 y)
def O.extS (i : Nat) (em : EM) (ρ : Rho) (h : Hc) (s : Option Sl) : O := match s with
  | some (.o (.lst ds)) => O.extD i ρ ds (em ρ h)
  | _ => if isL (held ρ h i) then (em ρ h).toS ρ fun y h1 => (match held ρ h1 i, itemsL h1 y with
  | .lst ds, some es => if ds.length + es.length ≤ 16777216 then Z.put ρ h1 i (.lst (ds ++ es)) fun ρ' h' => .nx ρ' h' else .bad
  | _, _ => .bad) else .bad
@[simp] theorem sExt_ap {i : Nat} {em : EM} : sExt i em ρ h = O.extS i em ρ h ρ[i]? := by
  unfold O.extS
  split
  · rename_i ds e
    unfold sExt O.extD
    rw [held_o e, isL_lst, if_pos rfl]
    cases em ρ h with
    | ok y h1 =>
      simp only [R.toS_ok, held_o e]
      unfold O.extR
      cases itemsL h1 y with
      | none => rfl
      | some es =>
        simp only
        unfold Z.put
        rw [e]
    | ex c h1 => rfl
    | bad => rfl
  · rfl
@[simp] theorem O.extS_o {i : Nat} {em : EM} {ds : List D} : O.extS i em ρ h (some (.o (.lst ds))) = O.extD i ρ ds (em ρ h) := id rfl
@[simp] theorem O.extD_ok {i : Nat} {ds es : List D} (hl : ds.length + es.length ≤ 16777216) : O.extD i ρ ds (.ok (.lst es) h) = .nx (ρ.set i (.o (.lst (ds ++ es)))) h := if_pos hl
@[simp] theorem O.extD_ex {i : Nat} {ds : List D} {c : Nat} : O.extD i ρ ds (.ex c h) = .ex c ρ h := id rfl
def O.putR (i : Nat) (ρ : Rho) (h : Hc) (ds : List D) (v k : D) : O := match k with
  | .int n => (match ixN ds.length n with
    | some j => .nx (ρ.set i (.o (.lst (ds.set j v)))) h
    | none => .bad)
  | _ => .bad
def O.putK (i : Nat) (ρ : Rho) (ds : List D) (v : D) (r : R D) : O := r.toS ρ fun k h2 => O.putR i ρ h2 ds v k
def O.putD (i : Nat) (ek : EM) (ρ : Rho) (ds : List D) (r : R D) : O := r.toS ρ fun v h1 => O.putK i ρ ds v (ek ρ h1)
def O.putS (i : Nat) (ek ev : EM) (ρ : Rho) (h : Hc) (s : Option Sl) : O := match s with
  | some (.o (.lst ds)) => O.putD i ek ρ ds (ev ρ h)
  | _ => if isL (held ρ h i) then (ev ρ h).toS ρ fun v h1 => (ek ρ h1).toS ρ fun k h2 => putAt ρ h2 i k v fun ρ' h' => .nx ρ' h' else .bad
theorem putAt_o {i : Nat} {ds : List D} {k v : D} (e : ρ[i]? = some (.o (.lst ds))) : (putAt ρ h i k v fun ρ' h' => .nx ρ' h') = O.putR i ρ h ds v k := by
  unfold putAt
  rw [held_o e]
  unfold O.putR
  cases k with
  | int n =>
    simp only
    cases ixN ds.length n with
    | none => rfl
    | some j =>
      simp only
      unfold Z.put
      rw [e]
  | _ => rfl
@[simp] theorem sPut_ap {i : Nat} {ek ev : EM} : sPut i ek ev ρ h = O.putS i ek ev ρ h ρ[i]? := by
  unfold O.putS
  split
  · rename_i ds e
    unfold sPut O.putD
    rw [held_o e, isL_lst, if_pos rfl]
    simp only [putAt_o e]
    rfl
  · rfl
@[simp] theorem O.putS_o {i : Nat} {ek ev : EM} {ds : List D} : O.putS i ek ev ρ h (some (.o (.lst ds))) = O.putD i ek ρ ds (ev ρ h) := id rfl
@[simp] theorem O.putD_ok {i : Nat} {ek : EM} {ds : List D} {v : D} : O.putD i ek ρ ds (.ok v h) = O.putK i ρ ds v (ek ρ h) := id rfl
@[simp] theorem O.putD_ex {i : Nat} {ek : EM} {ds : List D} {c : Nat} : O.putD i ek ρ ds (.ex c h) = .ex c ρ h := id rfl
@[simp] theorem O.putK_ok {i : Nat} {ds : List D} {v k : D} : O.putK i ρ ds v (.ok k h) = O.putR i ρ h ds v k := id rfl
def O.putJ (i : Nat) (ρ : Rho) (h : Hc) (ds : List D) (v : D) (r : Option Nat) : O := match r with
  | some j => .nx (ρ.set i (.o (.lst (ds.set j v)))) h
  | none => .bad
@[simp] theorem O.putR_int {i : Nat} {ds : List D} {v : D} {n : Int} : O.putR i ρ h ds v (.int n) = O.putJ i ρ h ds v (ixN ds.length n) := id rfl
@[simp] theorem O.putJ_some {i : Nat} {ds : List D} {v : D} {j : Nat} : O.putJ i ρ h ds v (some j) = .nx (ρ.set i (.o (.lst (ds.set j v)))) h := id rfl
theorem ixN_pos {n : Nat} {i : Int} (h0 : 0 ≤ i) (h1 : i < n) : ixN n i = some i.toNat := by
  unfold ixN
  rw [if_pos h0, if_pos h1]
theorem ixN_nat {n k : Nat} (h1 : k < n) : ixN n (k : Int) = some k := by rw [ixN_pos (by omega) (by omega)]; rfl
theorem ixN_last {n : Nat} : ixN (n + 1) (-1) = some n := by
  unfold ixN
  rw [if_neg (by omega), if_pos (by omega)]
  congr 1
  omega
def O.pauR (i : Nat) (op : D → D → Hc → R D) (ρ : Rho) (ds : List D) (k : D) (r : R D) : O := r.toS ρ fun z h => O.putR i ρ h ds z k
def O.pauY (i : Nat) (op : D → D → Hc → R D) (ρ : Rho) (ds : List D) (k x : D) (r : R D) : O := r.toS ρ fun y h3 => O.pauR i op ρ ds k (op x y h3)
def O.pauX (i : Nat) (op : D → D → Hc → R D) (ev : EM) (ρ : Rho) (ds : List D) (k : D) (r : R D) : O := r.toS ρ fun x h2 => O.pauY i op ρ ds k x (ev ρ h2)
def O.pauD (i : Nat) (op : D → D → Hc → R D) (ev : EM) (ρ : Rho) (ds : List D) (r : R D) : O := r.toS ρ fun k h1 => O.pauX i op ev ρ ds k (opIx (.lst ds) k h1)
def O.pauS (i : Nat) (op : D → D → Hc → R D) (ek ev : EM) (ρ : Rho) (h : Hc) (s : Option Sl) : O := match s with
  | some (.o (.lst ds)) => O.pauD i op ev ρ ds (ek ρ h)
  | _ => if isL (held ρ h i) then (ek ρ h).toS ρ fun k h1 => (opIx (held ρ h1 i) k h1).toS ρ fun x h2 => (ev ρ h2).toS ρ fun y h3 => (op x y h3).toS ρ fun z h4 => putAt ρ h4 i k z fun ρ' h' => .nx ρ' h' else .bad
@[simp] theorem sPutAug_ap {i : Nat} {op} {ek ev : EM} : sPutAug i op ek ev ρ h = O.pauS i op ek ev ρ h ρ[i]? := by
  unfold O.pauS
  split
  · rename_i ds e
    unfold sPutAug O.pauD
    rw [held_o e, isL_lst, if_pos rfl]
    simp only [putAt_o e, held_o e]
    rfl
  · rfl
@[simp] theorem O.pauS_o {i : Nat} {op} {ek ev : EM} {ds : List D} : O.pauS i op ek ev ρ h (some (.o (.lst ds))) = O.pauD i op ev ρ ds (ek ρ h) := id rfl
@[simp] theorem O.pauD_ok {i : Nat} {op} {ev : EM} {ds : List D} {k : D} : O.pauD i op ev ρ ds (.ok k h) = O.pauX i op ev ρ ds k (opIx (.lst ds) k h) := id rfl
@[simp] theorem O.pauX_ok {i : Nat} {op} {ev : EM} {ds : List D} {k x : D} : O.pauX i op ev ρ ds k (.ok x h) = O.pauY i op ρ ds k x (ev ρ h) := id rfl
@[simp] theorem O.pauY_ok {i : Nat} {op} {ds : List D} {k x y : D} : O.pauY i op ρ ds k x (.ok y h) = O.pauR i op ρ ds k (op x y h) := id rfl
@[simp] theorem O.pauR_ok {i : Nat} {op} {ds : List D} {k z : D} : O.pauR i op ρ ds k (.ok z h) = O.putR i ρ h ds z k := id rfl
@[simp] theorem sWhile_ap {n : Nat} {t : TM} {b : SM} : sWhile n t b ρ h = whileM t b n ρ h := id rfl

@[simp] theorem repL_length {s : List α} {n : Int} : (repL s n).length = n.toNat * s.length := by
  unfold repL
  induction n.toNat with
  | zero => simp
  | succ n ih => rw [List.replicate_succ, List.flatten_cons, List.length_append, ih, Nat.succ_mul, Nat.add_comm]

/-! ### where ways meet -/
@[simp] theorem ok_ite {c : Prop} [Decidable c] {x y : D} : (if c then R.ok x h else R.ok y h) = R.ok (if c then x else y) h := by split <;> rfl
@[simp] theorem okb_ite {c : Prop} [Decidable c] {x y : Bool} : (if c then R.ok x h else R.ok y h) = R.ok (if c then x else y) h := by split <;> rfl
@[simp] theorem str_ite {c : Prop} [Decidable c] {x y : List Nat} : (if c then D.str x else D.str y) = D.str (if c then x else y) := by split <;> rfl
@[simp] theorem int_ite {c : Prop} [Decidable c] {x y : Int} : (if c then D.int x else D.int y) = D.int (if c then x else y) := by split <;> rfl
@[simp] theorem bl_ite {c : Prop} [Decidable c] {x y : Bool} : (if c then D.bl x else D.bl y) = D.bl (if c then x else y) := by split <;> rfl
@[simp] theorem lst_ite {c : Prop} [Decidable c] {x y : List D} : (if c then D.lst x else D.lst y) = D.lst (if c then x else y) := by split <;> rfl
@[simp] theorem tup_ite {c : Prop} [Decidable c] {x y : List D} : (if c then D.tup x else D.tup y) = D.tup (if c then x else y) := by split <;> rfl
end
end Z

/-! Zt: loops, comprehensions, ranges with a step: what they come to -/
namespace Z
open PySem PySem.Spec L2
section
variable {ρ : Rho} {h : Hc} {α β : Type}
/-- a loop and what holds of it turn by turn; slots that no one reads may differ -/
theorem loop_P {t : Tg} {b : SM} (P : Nat → Rho → Hc → Prop) : ∀ (ds : List D) (i : Nat) (ρ : Rho) (h : Hc), P i ρ h →
    (∀ j d ρ h, ds[j]? = some d → P (i + j) ρ h → ∃ ρ1, bindD t d ρ = some ρ1 ∧ ∃ ρ' h', (b ρ1 h = .nx ρ' h' ∨ b ρ1 h = .ct ρ' h') ∧ P (i + j + 1) ρ' h') → ∃ ρ' h', loopM t b ds ρ h = .nx ρ' h' ∧ P (i + ds.length) ρ' h'
  | [], i, ρ, h, p, _ => ⟨ρ, h, rfl, p⟩
  | d :: ds, i, ρ, h, p, st => by
    obtain ⟨ρ1, e1, ρ2, h2, e2, p2⟩ := st 0 d ρ h rfl p
    obtain ⟨ρ3, h3, e3, p3⟩ := loop_P P ds (i + 1) ρ2 h2 p2 fun j d' ρ' h' e q => by
      have := st (j + 1) d' ρ' h' e (by rw [show i + (j + 1) = i + 1 + j by omega]; exact q)
      rw [show i + (j + 1) + 1 = i + 1 + j + 1 by omega] at this
      exact this
    refine ⟨ρ3, h3, ?_, by rw [List.length_cons, show i + (ds.length + 1) = i + 1 + ds.length by omega]; exact p3⟩
    rcases e2 with e2 | e2
    · simp only [loopM, e1, e2, e3]
    · simp only [loopM, e1, e2, e3]
/-- a loop that folds: rho tells the slots of a state, ok what holds of it behind so many turns -/
theorem loop_eqI {t : Tg} {b : SM} (enc : α → D) (rho : β → Rho) (f : β → α → β) (ok : Nat → β → Prop) (h : Hc) : ∀ (xs : List α) (i : Nat) (s : β), ok i s →
    (∀ j a s, xs[j]? = some a → ok (i + j) s → ∃ ρ1, bindD t (enc a) (rho s) = some ρ1 ∧ (b ρ1 h = .nx (rho (f s a)) h ∨ b ρ1 h = .ct (rho (f s a)) h) ∧ ok (i + j + 1) (f s a)) →
    loopM t b (xs.map enc) (rho s) h = .nx (rho (xs.foldl f s)) h ∧ ok (i + xs.length) (xs.foldl f s)
  | [], i, s, o, _ => ⟨rfl, o⟩
  | a :: xs, i, s, o, st => by
    obtain ⟨ρ1, e1, e2, o2⟩ := st 0 a s rfl o
    obtain ⟨e3, o3⟩ := loop_eqI enc rho f ok h xs (i + 1) (f s a) o2 fun j a' s' e q => by
      have := st (j + 1) a' s' e (by rw [show i + (j + 1) = i + 1 + j by omega]; exact q)
      rw [show i + (j + 1) + 1 = i + 1 + j + 1 by omega] at this
      exact this
    refine ⟨?_, by rw [List.length_cons, show i + (xs.length + 1) = i + 1 + xs.length by omega]; exact o3⟩
    rcases e2 with e2 | e2
    · simp only [List.map_cons, loopM, e1, e2, e3, List.foldl_cons]
    · simp only [List.map_cons, loopM, e1, e2, e3, List.foldl_cons]
/-- a loop that folds, ahead of the rest of a def -/
theorem for_eq {t : Tg} {b : SM} (enc : α → D) (rho : β → Rho) (f : β → α → β) (ok : Nat → β → Prop) (xs : List α) (s : β) {k : SM} {r : R D} (h0 : ok 0 s)
    (st : ∀ j a s, xs[j]? = some a → ok j s → ∃ ρ1, bindD t (enc a) (rho s) = some ρ1 ∧ (b ρ1 h = .nx (rho (f s a)) h ∨ b ρ1 h = .ct (rho (f s a)) h) ∧ ok (j + 1) (f s a))
    (hk : ok xs.length (xs.foldl f s) → ((O.nx (rho (xs.foldl f s)) h).andThen k).toR = r) : ((loopM t b (xs.map enc) (rho s) h).andThen k).toR = r := by
  obtain ⟨e, o⟩ := loop_eqI enc rho f ok h xs 0 s h0 fun j a s e o => by
    rw [Nat.zero_add] at o
    rw [Nat.zero_add]
    exact st j a s e o
  rw [Nat.zero_add] at o
  rw [e]
  exact hk o
theorem fold_ok (f : β → α → β) (ok : Nat → β → Prop) (xs : List α) (s : β) (h0 : ok 0 s) (st : ∀ j a s, xs[j]? = some a → ok j s → ok (j + 1) (f s a)) : ok xs.length (xs.foldl f s) := by
  have fo : ∀ j, j ≤ xs.length → ok j ((xs.take j).foldl f s) := by
    intro j
    induction j with
    | zero => intro _; exact h0
    | succ j ih =>
      intro hj
      have e : xs[j]? = some xs[j] := List.getElem?_eq_getElem (by omega)
      rw [List.take_succ, e, List.foldl_append]
      exact st j _ _ e (ih (by omega))
  have := fo _ (Nat.le_refl _)
  rwa [List.take_length] at this
/-- a loop wherever it stands -/
theorem loop_at {t : Tg} {b : SM} {ρ0 : Rho} (enc : α → D) (rho : β → Rho) (f : β → α → β) (ok : Nat → β → Prop) (xs : List α) (s : β) (e : ρ0 = rho s) (h0 : ok 0 s)
    (st : ∀ j a s, xs[j]? = some a → ok j s → ∃ ρ1, bindD t (enc a) (rho s) = some ρ1 ∧ (b ρ1 h = .nx (rho (f s a)) h ∨ b ρ1 h = .ct (rho (f s a)) h) ∧ ok (j + 1) (f s a)) : loopM t b (xs.map enc) ρ0 h = .nx (rho (xs.foldl f s)) h := by
  subst e
  exact (loop_eqI enc rho f ok h xs 0 s h0 fun j a s e o => by
    rw [Nat.zero_add] at o
    rw [Nat.zero_add]
    exact st j a s e o).1
/-- a comprehension whose parts touch nothing -/
theorem lc_eq {t : Tg} {em : EM} (enc val : α → D) (xs : List α) (hl : xs.length ≤ 16777216) (st : ∀ a ∈ xs, ∃ ρ1, bindD t (enc a) ρ = some ρ1 ∧ em ρ1 h = .ok (val a) h) : R.lc t tYesM em ρ (.ok (xs.map enc) h) = .ok (.lst (xs.map val)) h := by
  have main : ∀ xs : List α, (∀ a ∈ xs, ∃ ρ1, bindD t (enc a) ρ = some ρ1 ∧ em ρ1 h = .ok (val a) h) → lcLoop t tYesM em ρ (xs.map enc) h = .ok (xs.map val) h := by
    intro xs
    induction xs with
    | nil => intro _; rfl
    | cons a xs ih =>
      intro st
      obtain ⟨ρ1, e1, e2⟩ := st a List.mem_cons_self
      simp [lcLoop, e1, tYesM, e2, ih fun b hb => st b (List.mem_cons_of_mem _ hb), R.nox]
  show (if (xs.map enc).length ≤ 16777216 then (lcLoop t tYesM em ρ (xs.map enc) h).bind fun ys h2 => R.ok (D.lst ys) h2 else .bad) = _
  rw [if_pos (by rw [List.length_map]; exact hl), main xs st]
  rfl
/-- one with a test -/
theorem lc_fil {t : Tg} {tt : TM} {em : EM} (enc val : α → D) (p : α → Bool) (xs : List α) (hl : xs.length ≤ 16777216) (st : ∀ a ∈ xs, ∃ ρ1, bindD t (enc a) ρ = some ρ1 ∧ tt ρ1 h = .ok (p a) h ∧ (p a = true → em ρ1 h = .ok (val a) h)) : R.lc t tt em ρ (.ok (xs.map enc) h) = .ok (.lst ((xs.filter p).map val)) h := by
  have main : ∀ xs : List α, (∀ a ∈ xs, ∃ ρ1, bindD t (enc a) ρ = some ρ1 ∧ tt ρ1 h = .ok (p a) h ∧ (p a = true → em ρ1 h = .ok (val a) h)) → lcLoop t tt em ρ (xs.map enc) h = .ok ((xs.filter p).map val) h := by
    intro xs
    induction xs with
    | nil => intro _; rfl
    | cons a xs ih =>
      intro st
      obtain ⟨ρ1, e1, e2, e3⟩ := st a List.mem_cons_self
      have ih := ih fun b hb => st b (List.mem_cons_of_mem _ hb)
      cases q : p a with
      | true => simp [lcLoop, e1, e2, e3 q, ih, R.nox, List.filter_cons, q]
      | false => simp [lcLoop, e1, e2, ih, R.nox, List.filter_cons, q]
  show (if (xs.map enc).length ≤ 16777216 then (lcLoop t tt em ρ (xs.map enc) h).bind fun ys h2 => R.ok (D.lst ys) h2 else .bad) = _
  rw [if_pos (by rw [List.length_map]; exact hl), main xs st]
  rfl
/-- one whose parts draw: P holds of the heap, Q of each answer -/
theorem lc_draw {t : Tg} {em : EM} (P : Hc → Prop) (enc : β → D) (Q : β → Prop) : ∀ (ds : List D) (h : Hc), P h → (∀ d ∈ ds, ∀ h, P h → ∃ ρ1, bindD t d ρ = some ρ1 ∧ ∃ v h', em ρ1 h = .ok (enc v) h' ∧ Q v ∧ P h') →
    ∃ (vs : List β) (h' : Hc), lcLoop t tYesM em ρ ds h = .ok (vs.map enc) h' ∧ vs.length = ds.length ∧ (∀ v ∈ vs, Q v) ∧ P h'
  | [], h, p, _ => ⟨[], h, rfl, rfl, (fun _ z => nomatch z), p⟩
  | d :: ds, h, p, st => by
    obtain ⟨ρ1, e1, v, h1, e2, q, p1⟩ := st d List.mem_cons_self h p
    obtain ⟨vs, h2, e3, hl, qs, p2⟩ := lc_draw P enc Q ds h1 p1 fun d' hd => st d' (List.mem_cons_of_mem _ hd)
    exact ⟨v :: vs, h2, by simp [lcLoop, e1, tYesM, e2, e3, R.nox], by simp [hl], fun x hx => (List.mem_cons.mp hx).elim (fun z => z ▸ q) (qs x), p2⟩
theorem R.lc_of {t : Tg} {tt : TM} {em : EM} {ds ys : List D} {h h' : Hc} (hl : ds.length ≤ 16777216) (e : lcLoop t tt em ρ ds h = .ok ys h') : R.lc t tt em ρ (.ok ds h) = .ok (.lst ys) h' := by
  show (if ds.length ≤ 16777216 then (lcLoop t tt em ρ ds h).bind fun ys h2 => R.ok (D.lst ys) h2 else .bad) = _
  rw [if_pos hl, e]
  rfl
theorem genL_eq {t : Tg} {em : EM} (enc val : α → D) : ∀ (xs : List α), (∀ a ∈ xs, ∃ ρ1, bindD t (enc a) ρ = some ρ1 ∧ em ρ1 h = .ok (val a) h) → genL t tYesM em ρ (xs.map enc) h = (xs.map fun a => (val a, h), some h)
  | [], _ => rfl
  | a :: xs, st => by
    obtain ⟨ρ1, e1, e2⟩ := st a List.mem_cons_self
    have ih := genL_eq enc val xs fun b hb => st b (List.mem_cons_of_mem _ hb)
    simp only [List.map_cons, genL, e1, tYesM, e2, ih]
theorem genL_fil {t : Tg} {tt : TM} {em : EM} (enc val : α → D) (p : α → Bool) : ∀ (xs : List α), (∀ a ∈ xs, ∃ ρ1, bindD t (enc a) ρ = some ρ1 ∧ tt ρ1 h = .ok (p a) h ∧ (p a = true → em ρ1 h = .ok (val a) h)) → genL t tt em ρ (xs.map enc) h = ((xs.filter p).map fun a => (val a, h), some h)
  | [], _ => rfl
  | a :: xs, st => by
    obtain ⟨ρ1, e1, e2, e3⟩ := st a List.mem_cons_self
    have ih := genL_fil enc val p xs fun b hb => st b (List.mem_cons_of_mem _ hb)
    cases q : p a with
    | true => simp only [List.map_cons, genL, e1, e2, e3 q, ih, List.filter_cons, q, if_true]
    | false => simp [List.map_cons, genL, e1, e2, ih, List.filter_cons, q]
theorem R.gen_of {γ : Type} {t : Tg} {tt : TM} {em : EM} {k : List (D × Hc) → Hc → R γ} {ds : List D} {yl : List (D × Hc)} {hE : Hc} (hl : ds.length ≤ 16777216) (e : genL t tt em ρ ds h = (yl, some hE)) : R.gen t tt em k ρ (.ok ds h) = k yl hE := by
  show (if ds.length ≤ 16777216 then (match genL t tt em ρ ds h with
  | (yl, some hE) => k yl hE
  | _ => .bad) else .bad) = _
  rw [if_pos hl, e]
theorem anyC_eq (p : α → Bool) (h : Hc) : ∀ xs : List α, anyC (xs.map fun a => (D.bl (p a), h)) h = .ok (.bl (xs.any p)) h
  | [] => rfl
  | a :: xs => by
    cases e : p a with
    | true => simp [anyC, e]
    | false => simp [anyC, e, anyC_eq p h xs]
theorem allC_eq (p : α → Bool) (h : Hc) : ∀ xs : List α, allC (xs.map fun a => (D.bl (p a), h)) h = .ok (.bl (xs.all p)) h
  | [] => rfl
  | a :: xs => by
    cases e : p a with
    | false => simp [allC, e]
    | true => simp [allC, e, allC_eq p h xs]
theorem sumC_eq (f : α → Int) (h : Hc) : ∀ (xs : List α) (acc : Int), 0 ≤ acc → (∀ a ∈ xs, 0 ≤ f a) → acc + (xs.map f).sum < 2 ^ 63 → sumC acc (xs.map fun a => (D.int (f a), h)) h = .ok (.int (acc + (xs.map f).sum)) h
  | [], acc, _, _, _ => by simp [sumC]
  | a :: xs, acc, h0, hf, hb => by
    have f0 := hf a List.mem_cons_self
    have s0 : 0 ≤ (xs.map f).sum := by
      have : ∀ ys : List α, (∀ b ∈ ys, 0 ≤ f b) → 0 ≤ (ys.map f).sum := fun ys => by
        induction ys with
        | nil => intro _; exact Int.le_refl 0
        | cons y ys ih =>
          intro hy
          rw [List.map_cons, List.sum_cons]
          have := hy y List.mem_cons_self
          have := ih fun b hb => hy b (List.mem_cons_of_mem _ hb)
          omega
      exact this xs fun b hb => hf b (List.mem_cons_of_mem _ hb)
    rw [List.map_cons, List.sum_cons] at hb
    have c : (inLong (f a) && inLong (acc + f a)) = true := by
      unfold inLong
      simp only [Bool.and_eq_true, decide_eq_true_eq]
      omega
    simp only [List.map_cons, sumC, List.sum_cons]
    rw [if_pos c, sumC_eq f h xs (acc + f a) (by omega) (fun b hb => hf b (List.mem_cons_of_mem _ hb)) (by omega), Int.add_assoc]
theorem tupC_eq (f : α → D) (h : Hc) (xs : List α) (hl : xs.length < 16777216) : tupC (xs.map fun a => (f a, h)) h = .ok (.tup (xs.map f)) h := by
  show (if (xs.map fun a => (f a, h)).length < 16777216 then R.ok (D.tup ((xs.map fun a => (f a, h)).map (·.1))) h else .bad) = _
  rw [if_pos (by rw [List.length_map]; exact hl), List.map_map]
  rfl
/-- any, all, sum, tuple of what touches nothing -/
theorem any_eq {t : Tg} {em : EM} (enc : α → D) (p : α → Bool) (xs : List α) (hl : xs.length ≤ 16777216) (st : ∀ a ∈ xs, ∃ ρ1, bindD t (enc a) ρ = some ρ1 ∧ em ρ1 h = .ok (.bl (p a)) h) : R.gen t tYesM em anyC ρ (.ok (xs.map enc) h) = .ok (.bl (xs.any p)) h := by
  rw [R.gen_of (by rw [List.length_map]; exact hl) (genL_eq enc (fun a => .bl (p a)) xs st), anyC_eq]
theorem all_eq {t : Tg} {em : EM} (enc : α → D) (p : α → Bool) (xs : List α) (hl : xs.length ≤ 16777216) (st : ∀ a ∈ xs, ∃ ρ1, bindD t (enc a) ρ = some ρ1 ∧ em ρ1 h = .ok (.bl (p a)) h) : R.gen t tYesM em allC ρ (.ok (xs.map enc) h) = .ok (.bl (xs.all p)) h := by
  rw [R.gen_of (by rw [List.length_map]; exact hl) (genL_eq enc (fun a => .bl (p a)) xs st), allC_eq]
theorem sum_eq {t : Tg} {em : EM} (enc : α → D) (f : α → Int) (xs : List α) (hl : xs.length ≤ 16777216) (h0 : ∀ a ∈ xs, 0 ≤ f a) (hb : (xs.map f).sum < 2 ^ 63) (st : ∀ a ∈ xs, ∃ ρ1, bindD t (enc a) ρ = some ρ1 ∧ em ρ1 h = .ok (.int (f a)) h) : R.gen t tYesM em (sumC 0) ρ (.ok (xs.map enc) h) = .ok (.int (xs.map f).sum) h := by
  rw [R.gen_of (by rw [List.length_map]; exact hl) (genL_eq enc (fun a => .int (f a)) xs st), sumC_eq f h xs 0 (Int.le_refl 0) h0 (by omega), Int.zero_add]
theorem tup_eq {t : Tg} {em : EM} (enc val : α → D) (xs : List α) (hl : xs.length < 16777216) (st : ∀ a ∈ xs, ∃ ρ1, bindD t (enc a) ρ = some ρ1 ∧ em ρ1 h = .ok (val a) h) : R.gen t tYesM em tupC ρ (.ok (xs.map enc) h) = .ok (.tup (xs.map val)) h := by
  rw [R.gen_of (by rw [List.length_map]; omega) (genL_eq enc val xs st), tupC_eq val h xs hl]

/-! ### a range with a step -/
theorem rngC_eq (c : Int) : ∀ (n : Nat) (lo : Int), rngC c lo n = (List.range n).map fun k : Nat => D.int (lo + k * c) := by
  intro n
  induction n with
  | zero => intro lo; rfl
  | succ n ih =>
    intro lo
    show D.int lo :: rngC c (lo + c) n = _
    rw [ih, List.range_succ_eq_map, List.map_cons, List.map_map]
    congr 1
    · simp
    · apply List.map_congr_left
      intro k _
      simp only [Function.comp, Nat.succ_eq_add_one]
      congr 1
      push_cast
      rw [Int.add_mul]
      omega
/-- how many parts of m there are in n -/
def ups (n m : Nat) : Nat := (n + m - 1) / m
theorem rangeSize_up {n m : Nat} (hm : 0 < m) : (Builtin.Range.rangeSize 0 n m).toNat = ups n m ∧ 0 ≤ Builtin.Range.rangeSize 0 n m := by
  unfold Builtin.Range.rangeSize ups
  rw [if_pos (by omega)]
  by_cases h : 0 < n
  · rw [if_pos (by omega)]
    have e : ((n : Int) - 0 - 1) / (m : Int) + 1 = (((n - 1) / m + 1 : Nat) : Int) := by
      rw [show (n : Int) - 0 - 1 = ((n - 1 : Nat) : Int) by omega]
      rfl
    rw [e]
    refine ⟨?_, Int.natCast_nonneg _⟩
    rw [Int.toNat_natCast, show n + m - 1 = n - 1 + m by omega, Nat.add_div_right _ hm]
  · rw [if_neg (by omega)]
    obtain rfl : n = 0 := by omega
    refine ⟨?_, Int.le_refl 0⟩
    rw [Nat.zero_add, Nat.div_eq_of_lt (by omega)]
    rfl
theorem kR3_up {n m : Nat} (hm : 0 < m) (hm2 : m < 1073741824) (hn : n < 1073741824) : kR3 [.int 0, .int n, .int m] h = .ok ((List.range (ups n m)).map fun k : Nat => D.int ((k : Int) * (m : Int))) h := by
  obtain ⟨e1, e2⟩ := rangeSize_up (n := n) (m := m) hm
  have sm : Builtin.Range.small 0 n m = true := by
    have u : ups n m ≤ n := by
      unfold ups
      have h1 : (n + m - 1) / m < n + 1 := by
        rw [Nat.div_lt_iff_lt_mul hm, Nat.add_mul, Nat.one_mul]
        have h2 : n ≤ n * m := Nat.le_mul_of_pos_right _ hm
        omega
      omega
    have fl : ∀ z : Int, -(2 ^ 62) ≤ z → z < 2 ^ 62 → Builtin.Range.rangeFitsLong z = true := fun z h1 h2 => by
      unfold Builtin.Range.rangeFitsLong
      simp
      omega
    unfold Builtin.Range.small
    simp only [Bool.and_eq_true, Bool.or_eq_true]
    refine ⟨⟨⟨⟨fl _ (by omega) (by omega), fl _ (by omega) (by omega)⟩, fl _ (by omega) (by omega)⟩, fl _ (by omega) (by omega)⟩, .inr ?_⟩
    split
    · exact fl _ (by omega) (by omega)
    · exact fl _ (by omega) (by omega)
  show (if (m : Int) ≠ 0 ∧ (m : Int).natAbs < 1073741824 ∧ Builtin.Range.small 0 n m = true ∧ 0 ≤ Builtin.Range.rangeSize 0 n m then R.ok (rngC m 0 (Builtin.Range.rangeSize 0 n m).toNat) h else .bad) = _
  rw [if_pos ⟨by omega, by omega, sm, e2⟩, e1, rngC_eq]
  refine congrArg (fun z => R.ok z h) ?_
  apply List.map_congr_left
  intro k _
  rw [Int.zero_add]
theorem cutL_part {l : List α} {k m : Nat} : cutL l (some ((k : Int) * (m : Int))) (some ((k : Int) * (m : Int) + (m : Int))) = (l.drop (k * m)).take m := by
  have e : (k : Int) * (m : Int) = ((k * m : Nat) : Int) := rfl
  rw [e, cutL_lohi (Int.natCast_nonneg _) (by omega), List.drop_take]
  congr 1
  · omega
/-- a list in parts of m -/
def chunk (m : Nat) (l : List α) : List (List α) := (List.range (ups l.length m)).map fun k => (l.drop (k * m)).take m
theorem ups_lt {n m k : Nat} (hm : 0 < m) : k < ups n m ↔ k * m < n := by
  unfold ups
  rw [Nat.lt_div_iff_mul_lt hm]
  omega
theorem ups_mul {n m : Nat} (hm : 0 < m) : n ≤ ups n m * m := by
  have := (ups_lt (n := n) (k := ups n m) hm)
  omega
theorem chunk_flat (m : Nat) (l : List α) (hm : 0 < m) : (chunk m l).flatten = l := by
  have main : ∀ n, ((List.range n).map fun k => (l.drop (k * m)).take m).flatten = l.take (n * m) := by
    intro n
    induction n with
    | zero => simp
    | succ n ih => rw [List.range_succ, List.map_append, List.flatten_append, ih, Nat.succ_mul, List.take_add]; simp
  unfold chunk
  rw [main, List.take_of_length_le (ups_mul hm)]
theorem chunk_ne {m : Nat} {l : List α} (hm : 0 < m) {p : List α} (hp : p ∈ chunk m l) : p ≠ [] ∧ p.length ≤ m := by
  obtain ⟨k, hk, rfl⟩ := List.mem_map.mp hp
  have := (ups_lt hm).mp (List.mem_range.mp hk)
  refine ⟨fun z => ?_, by rw [List.length_take]; omega⟩
  have := congrArg List.length z
  rw [List.length_take, List.length_drop, List.length_nil] at this
  omega
theorem chunk_len (m : Nat) (l : List α) (hm : 0 < m) : (chunk m l).length ≤ l.length := by
  unfold chunk
  rw [List.length_map, List.length_range]
  have := ups_lt (n := l.length) (k := l.length) hm
  have h2 : l.length ≤ l.length * m := Nat.le_mul_of_pos_right _ hm
  omega
/-! ### a while -/
def wh (c : β → Bool) (f : β → β) : Nat → β → β
  | 0, s => s
  | n + 1, s => if c s = true then wh c f n (f s) else s
/-- turns counted by a number that falls; f tells a turn -/
theorem while_eq {t : TM} {b : SM} (rho : β → Rho) (c : β → Bool) (f : β → β) (ok : β → Prop) (μ : β → Nat) (h : Hc)
    (st : ∀ s, ok s → t (rho s) h = .ok (c s) h ∧ (c s = true → (b (rho s) h = .nx (rho (f s)) h ∨ b (rho s) h = .ct (rho (f s)) h) ∧ ok (f s) ∧ μ (f s) < μ s)) : ∀ (n m : Nat) (s : β), μ s < n → μ s ≤ m → ok s →
    whileM t b n (rho s) h = .nx (rho (wh c f m s)) h ∧ ok (wh c f m s) ∧ c (wh c f m s) = false
  | 0, m, s, hm, _, _ => absurd hm (Nat.not_lt_zero _)
  | n + 1, m, s, hm, hm2, o => by
    obtain ⟨e1, e2⟩ := st s o
    cases q : c s with
    | false =>
      have e : wh c f m s = s := by
        cases m with
        | zero => rfl
        | succ m => show (if c s = true then _ else s) = s; rw [q]; rfl
      rw [e]
      refine ⟨?_, o, q⟩
      show (t (rho s) h).toS (rho s) _ = _
      rw [e1, q]
      rfl
    | true =>
      obtain ⟨e3, o3, m3⟩ := e2 q
      obtain ⟨m, rfl⟩ : ∃ k, m = k + 1 := ⟨m - 1, by omega⟩
      have e : wh c f (m + 1) s = wh c f m (f s) := by
        show (if c s = true then wh c f m (f s) else s) = _
        rw [q]; rfl
      obtain ⟨e4, o4, c4⟩ := while_eq rho c f ok μ h st n m (f s) (by omega) (by omega) o3
      rw [e]
      refine ⟨?_, o4, c4⟩
      show (t (rho s) h).toS (rho s) _ = _
      rw [e1, q, ← e4]
      rcases e3 with e3 | e3
      · simp only [R.toS_ok, if_true, e3]; rfl
      · simp only [R.toS_ok, if_true, e3]; rfl
end
end Z

namespace Z
open PySem PySem.Spec L2
/-! the plain law: packs -/
inductive Pk where
  | same (c : Nat) (k : Int)
  | other (s : List Nat)
def sSame : List Nat := [115, 97, 109, 101]
def sOther : List Nat := [111, 116, 104, 101, 114]
def pkD : Pk → D
  | .same c k => .tup [.str [115, 97, 109, 101], .str [c], .int k]
  | .other s => .tup [.str [111, 116, 104, 101, 114], .str s]
def cutF (l : List Nat) (m : Nat) : List Pk := (chunk m l).map .other
theorem others_eq (l : List Nat) (m : Nat) (h : Hc) (hl : l.length ≤ 1000) (hm : 0 < m) (hm2 : m ≤ 1000) : m_others [.str l, .int m] h = .ok (.lst ((cutF l m).map pkD)) h := by
  show (b_others [.v (.str l), .v (.int m), .u] h).toR = _
  have hl2 : l.length ≤ 16777216 := by omega
  have u : ups l.length m ≤ 16777216 := by
    have := chunk_len m l hm
    unfold chunk at this
    rw [List.length_map, List.length_range] at this
    omega
  simp [b_others, hl2, kR3_up hm (by omega : m < 1073741824) (by omega : l.length < 1073741824)]
  rw [lc_eq (fun k : Nat => D.int ((k : Int) * (m : Int))) (fun k => pkD (.other ((l.drop (k * m)).take m))) _ (by simpa using u)]
  · simp [cutF, chunk, List.map_map]
  · intro k hk
    refine ⟨_, rfl, ?_⟩
    simp [hl2, pkD, cutL_part]
end Z

namespace Z
open PySem PySem.Spec L2
/-! the plain law: packs, what they come to -/
def pkT : Pk → List Nat
  | .same c k => List.replicate k.toNat c
  | .other s => s
def pksT (ps : List Pk) : List Nat := ps.flatMap pkT
def pkOk : Pk → Prop
  | .same c k => 1 ≤ k
  | .other s => s ≠ []
theorem pksT_app (a b : List Pk) : pksT (a ++ b) = pksT a ++ pksT b := List.flatMap_append
theorem cutF_T (l : List Nat) {m : Nat} (hm : 0 < m) : pksT (cutF l m) = l := by
  have e : pksT (cutF l m) = (chunk m l).flatten := by
    unfold pksT cutF
    rw [List.flatMap_def, List.map_map]
    congr 1
    have : (pkT ∘ Pk.other) = id := rfl
    rw [this, List.map_id]
  rw [e, chunk_flat m l hm]
theorem cutF_ok {l : List Nat} {m : Nat} (hm : 0 < m) : ∀ p ∈ cutF l m, pkOk p := fun p hp => by
  obtain ⟨s, hs, rfl⟩ := List.mem_map.mp hp
  exact (chunk_ne hm hs).1
theorem cutF_len (l : List Nat) {m : Nat} (hm : 0 < m) : (cutF l m).length ≤ l.length := by
  unfold cutF
  rw [List.length_map]
  exact chunk_len m l hm
def mnI (k : Int) (m : Nat) : Int := if (m : Int) < k then m else k
abbrev Ws := List Pk × List Nat × Int × Sl
def wcond (least : Nat) (s : Ws) : Bool := decide ((least : Int) ≤ s.2.2.1)
def wstep (m c : Nat) (s : Ws) : Ws := (s.1 ++ cutF s.2.1 m ++ [.same c (mnI s.2.2.1 m)], [], s.2.2.1 - mnI s.2.2.1 m, .v (.int (mnI s.2.2.1 m)))
structure WOk (m c n : Nat) (T : List Nat) (s : Ws) : Prop where
  ok : ∀ p ∈ s.1, pkOk p
  tx : pksT s.1 ++ s.2.1 ++ List.replicate s.2.2.1.toNat c = T
  pos : 0 ≤ s.2.2.1
  sz : s.1.length + s.2.1.length + s.2.2.1.toNat ≤ n
theorem mnI_in {k : Int} {m : Nat} (hm : 0 < m) (hk : 0 < k) : 1 ≤ mnI k m ∧ mnI k m ≤ k ∧ mnI k m ≤ m := by
  unfold mnI
  split <;> omega
theorem wstep_ok {least m c n : Nat} {T : List Nat} {s : Ws} (hm : 0 < m) (h1 : 1 ≤ least) (o : WOk m c n T s) (hc : wcond least s = true) : WOk m c n T (wstep m c s) ∧ (wstep m c s).2.2.1.toNat < s.2.2.1.toNat := by
  obtain ⟨fd, hd, k, x⟩ := s
  have hk : (least : Int) ≤ k := of_decide_eq_true hc
  obtain ⟨a, b, d⟩ := mnI_in (k := k) hm (by omega)
  obtain ⟨o1, o2, o3, o4⟩ := o
  simp only at o1 o2 o3 o4
  have lc := cutF_len hd hm
  refine ⟨⟨fun p hp => ?_, ?_, ?_, ?_⟩, ?_⟩
  · rcases List.mem_append.mp hp with hp | hp
    · rcases List.mem_append.mp hp with hp | hp
      · exact o1 p hp
      · exact cutF_ok hm p hp
    · rw [List.mem_singleton.mp hp]
      exact a
  · show pksT (fd ++ cutF hd m ++ [Pk.same c (mnI k m)]) ++ [] ++ List.replicate (k - mnI k m).toNat c = T
    rw [pksT_app, pksT_app, cutF_T hd hm, ← o2, show k.toNat = (mnI k m).toNat + (k - mnI k m).toNat by omega, ← List.replicate_append_replicate]
    simp [pksT, pkT]
  · show 0 ≤ k - mnI k m
    omega
  · show (fd ++ cutF hd m ++ [Pk.same c (mnI k m)]).length + 0 + (k - mnI k m).toNat ≤ n
    rw [List.length_append, List.length_append]
    simp only [List.length_cons, List.length_nil]
    omega
  · show (k - mnI k m).toNat < k.toNat
    omega
theorem wh_ok {least m c n : Nat} {T : List Nat} (hm : 0 < m) (h1 : 1 ≤ least) : ∀ (q : Nat) (s : Ws), WOk m c n T s → WOk m c n T (wh (wcond least) (wstep m c) q s)
  | 0, s, o => o
  | q + 1, s, o => by
    show WOk m c n T (if wcond least s = true then wh (wcond least) (wstep m c) q (wstep m c s) else s)
    split
    · rename_i hc
      exact wh_ok hm h1 q _ (wstep_ok hm h1 o hc).1
    · exact o
abbrev Ps := List Pk × List Nat × Sl × Sl × Sl
def pstep (least m : Nat) (s : Ps) (r : Nat × Int) : Ps :=
  let w := wh (wcond least) (wstep m r.1) r.2.toNat (s.1, s.2.1, r.2, s.2.2.2.2)
  (w.1, w.2.1 ++ repL [r.1] w.2.2.1, .v (.str [r.1]), .v (.int w.2.2.1), w.2.2.2)
def packsF (least m : Nat) (rs : List (Nat × Int)) : List Pk :=
  let s := rs.foldl (pstep least m) ([], [], .u, .u, .u)
  s.1 ++ cutF s.2.1 m
structure POk (rs : List (Nat × Int)) (j : Nat) (s : Ps) : Prop where
  ok : ∀ p ∈ s.1, pkOk p
  tx : pksT s.1 ++ s.2.1 = spread (rs.take j)
  sz : s.1.length + s.2.1.length ≤ (spread (rs.take j)).length
theorem spread_one (c : Nat) (k : Int) : spread [(c, k)] = List.replicate k.toNat c := by simp [spread]
theorem wok_start {rs : List (Nat × Int)} {j : Nat} {s : Ps} {r : Nat × Int} {m : Nat} (o : POk rs j s) (e : rs[j]? = some r) (hr : 1 ≤ r.2) : WOk m r.1 (spread (rs.take (j + 1))).length (spread (rs.take (j + 1))) (s.1, s.2.1, r.2, s.2.2.2.2) := by
  have et : rs.take (j + 1) = rs.take j ++ [r] := by rw [List.take_succ, e]; rfl
  have es : spread (rs.take (j + 1)) = spread (rs.take j) ++ List.replicate r.2.toNat r.1 := by rw [et, spread_app, spread_one r.1 r.2]
  refine ⟨o.ok, ?_, by show 0 ≤ r.2; omega, ?_⟩
  · show pksT s.1 ++ s.2.1 ++ List.replicate r.2.toNat r.1 = _
    rw [o.tx, es]
  · show s.1.length + s.2.1.length + r.2.toNat ≤ _
    have := o.sz
    rw [es, List.length_append, List.length_replicate]
    omega
theorem pstep_ok {rs : List (Nat × Int)} {j least m : Nat} {s : Ps} {r : Nat × Int} (hm : 0 < m) (h1 : 1 ≤ least) (o : POk rs j s) (e : rs[j]? = some r) (hr : 1 ≤ r.2) : POk rs (j + 1) (pstep least m s r) := by
  have w := wh_ok hm h1 r.2.toNat _ (wok_start (m := m) o e hr)
  obtain ⟨a, b, c, d⟩ := w
  refine ⟨a, ?_, ?_⟩
  · show pksT _ ++ (_ ++ repL [r.1] _) = _
    rw [rep_sign, ← List.append_assoc]
    exact b
  · show (wh (wcond least) (wstep m r.1) r.2.toNat (s.1, s.2.1, r.2, s.2.2.2.2)).1.length + (_ ++ repL [r.1] _).length ≤ _
    rw [rep_sign, List.length_append, List.length_replicate]
    omega
theorem packsF_ok {l : List Nat} {least m : Nat} (hm : 0 < m) (h1 : 1 ≤ least) : (∀ p ∈ packsF least m (runsF l), pkOk p) ∧ pksT (packsF least m (runsF l)) = l ∧ (packsF least m (runsF l)).length ≤ l.length := by
  obtain ⟨f1, f2, f3⟩ := runs_facts l
  have main : ∀ j, j ≤ (runsF l).length → POk (runsF l) j (((runsF l).take j).foldl (pstep least m) ([], [], .u, .u, .u)) := by
    intro j
    induction j with
    | zero => intro _; exact ⟨(fun _ z => nomatch z), rfl, Nat.le_refl _⟩
    | succ j ih =>
      intro hj
      have e : (runsF l)[j]? = some (runsF l)[j] := List.getElem?_eq_getElem (by omega)
      rw [List.take_succ, e, List.foldl_append]
      exact pstep_ok hm h1 (ih (by omega)) e (f1 _ (List.getElem_mem _))
  have o := main (runsF l).length (Nat.le_refl _)
  rw [List.take_length] at o
  obtain ⟨a, b, c⟩ := o
  rw [List.take_length, f2] at b c
  refine ⟨fun p hp => ?_, ?_, ?_⟩
  · rcases List.mem_append.mp hp with hp | hp
    · exact a p hp
    · exact cutF_ok hm p hp
  · show pksT (_ ++ cutF _ m) = l
    rw [pksT_app, cutF_T _ hm, b]
  · show (_ ++ cutF _ m).length ≤ _
    rw [List.length_append]
    have := cutF_len ((runsF l).foldl (pstep least m) ([], [], .u, .u, .u)).2.1 hm
    omega
end Z

namespace Z
open PySem PySem.Spec L2
/-! the plain law: packs, walked -/
@[simp] theorem opGe_le {i j : Int} {h : Hc} : opGe (.int i) (.int j) h = .ok (.bl (decide (j ≤ i))) h := rfl
theorem packs_eq (l : List Nat) (least m : Nat) (h : Hc) (hl : l.length ≤ 400) (h2 : 2 ≤ least) (hm : least ≤ m) (hm2 : m ≤ 1000) : m_packs [.str l, .int least, .int m] h = .ok (.tup ((packsF least m (runsF l)).map pkD)) h := by
  show (b_packs [.v (.str l), .v (.int least), .v (.int m), .u, .u, .u, .u, .u] h).toR = _
  have c1 : ¬ (least : Int) < 2 := by omega
  have c2 : ¬ m < least := by omega
  obtain ⟨f1, f2, f3⟩ := runs_facts l
  have inner : ∀ (T : List Nat) (c n : Nat) (s : Ws), n ≤ 400 → WOk m c n T s → s.2.2.1.toNat < 1000000 → whileM (tB1 (eBin opGe (eLook 6) (eLook 1))) (sSeq (sExt 3 (eCall 2 m_others (aCons (eVar 4) (aCons (eVar 2) aNil))))
    (sSeq (sSet 4 (eC (.str [])))
    (sSeq (sSet 7 (eBi bMin2 (aCons (eLook 6) (aCons (eLook 2) aNil))))
    (sSeq (sWm wAppend 3 (aCons (eTup (aCons (eC (.str [115, 97, 109, 101])) (aCons (eVar 5) (aCons (eVar 7) aNil)))) aNil))
    (sAug 6 opSub (eVar 7)))))) 1000000 [.v (.str l), .v (.int least), .v (.int m), .o (.lst (s.1.map pkD)), .v (.str s.2.1), .v (.str [c]), .v (.int s.2.2.1), s.2.2.2] h =
      let w := wh (wcond least) (wstep m c) s.2.2.1.toNat s
      .nx [.v (.str l), .v (.int least), .v (.int m), .o (.lst (w.1.map pkD)), .v (.str w.2.1), .v (.str [c]), .v (.int w.2.2.1), w.2.2.2] h := by
    intro T c n s hn o hs
    refine (while_eq (fun s : Ws => [.v (.str l), .v (.int least), .v (.int m), .o (.lst (s.1.map pkD)), .v (.str s.2.1), .v (.str [c]), .v (.int s.2.2.1), s.2.2.2]) (wcond least) (wstep m c) (WOk m c n T) (fun s => s.2.2.1.toNat) h (fun s o => ⟨?_, fun hc => ⟨.inl ?_, wstep_ok (by omega) (by omega) o hc⟩⟩) 1000000 _ s hs (Nat.le_refl _) o).1
    · simp [wcond]
    · obtain ⟨fd, hd, k, x⟩ := s
      have sz := o.sz
      simp only at sz
      have l1 : hd.length ≤ 1000 := by omega
      have e1 := others_eq hd m h l1 (by omega) hm2
      have lc := cutF_len hd (m := m) (by omega)
      have g1 : fd.length + (cutF hd m).length ≤ 16777216 := by omega
      have g2 : fd.length + (cutF hd m).length < 16777216 := by omega
      simp [e1, g1, g2, wstep, mnI, pkD]
  simp [b_packs, check_ok l h hl, c1, c2, runs_eq l h hl]
  refine for_eq rowD (fun s : Ps => [.v (.str l), .v (.int least), .v (.int m), .o (.lst (s.1.map pkD)), .v (.str s.2.1), s.2.2.1, s.2.2.2.1, s.2.2.2.2]) (pstep least m) (POk (runsF l)) (runsF l) ([], [], .u, .u, .u)
    ⟨(fun _ z => nomatch z), rfl, Nat.le_refl _⟩ (fun j r s e o => ?_) (fun o => ?_)
  · have hr := f1 r (List.mem_of_getElem? e)
    have hs := runs_small (List.mem_of_getElem? e)
    refine ⟨_, rfl, .inl ?_, pstep_ok (by omega) (by omega) o e hr⟩
    have n1 : (spread ((runsF l).take (j + 1))).length ≤ 400 := by
      rw [← f2] at hl
      have : spread (runsF l) = spread ((runsF l).take (j + 1)) ++ spread ((runsF l).drop (j + 1)) := by rw [← spread_app, List.take_append_drop]
      rw [this, List.length_append] at hl
      omega
    have w0 := wok_start (m := m) o e hr
    have i1 := inner _ r.1 _ _ n1 w0 (by show r.2.toNat < _; omega)
    have o1 := pstep_ok (least := least) (m := m) (by omega) (by omega) o e hr
    obtain ⟨c, k⟩ := r
    obtain ⟨fd, hd, x5, x6, x7⟩ := s
    have w1 := wh_ok (least := least) (m := m) (by omega) (by omega) k.toNat _ w0
    simp only [pstep] at i1 ⊢
    revert i1 w1
    generalize wh (wcond least) (wstep m c) k.toNat (fd, hd, k, x7) = w
    intro i1 w1
    obtain ⟨fd', hd', k', x'⟩ := w
    have sz := w1.sz
    have pos := w1.pos
    simp only at i1 sz pos
    simp (disch := first | assumption | omega | (simp only [List.length_map, List.length_append, List.length_cons, List.length_nil, List.length_take, List.length_drop, List.length_replicate, List.length_range, repL_length, List.length_reverse, List.length_set, rgI_len, Int.toNat_natCast]; omega) | (simp; done) | fail) [-getElem?_pos, rowD, i1]
  · have sz := o.sz
    rw [List.take_length, f2] at sz
    unfold packsF
    generalize (runsF l).foldl (pstep least m) ([], [], .u, .u, .u) = s at sz ⊢
    obtain ⟨fd, hd, x5, x6, x7⟩ := s
    simp only at sz
    have lc := cutF_len hd (m := m) (by omega)
    have g1 : fd.length + (cutF hd m).length ≤ 16777216 := by omega
    simp [others_eq hd m h (by omega) (by omega) hm2, g1]
end Z

namespace Z
open PySem PySem.Spec L2
/-! the plain law: _law_packs, from_packs, size_of -/
theorem lcut_eq (l : List Nat) (m : Nat) (h : Hc) (hl : l.length ≤ 1000) (hm : 0 < m) (hm2 : m ≤ 1000) : m__law_cut [.str l, .int m] h = .ok (.lst ((cutF l m).map pkD)) h := others_eq l m h hl hm hm2
theorem lpacks_eq (l : List Nat) (least m : Nat) (h : Hc) (hl : l.length ≤ 400) (h2 : 2 ≤ least) (hm : least ≤ m) (hm2 : m ≤ 1000) : m__law_packs [.str l, .int least, .int m] h = .ok (.lst ((packsF least m (runsF l)).map pkD)) h := by
  show (b__law_packs [.v (.str l), .v (.int least), .v (.int m), .u, .u, .u, .u] h).toR = _
  obtain ⟨f1, f2, f3⟩ := runs_facts l
  have inner : ∀ (T : List Nat) (c n : Nat) (s : Ws), n ≤ 400 → WOk m c n T s → s.2.2.1.toNat < 1000000 → whileM (tB1 (eBin opGe (eLook 6) (eLook 1))) (sSeq (sPar 3 4 (vE (eBin opAdd (eBin opAdd (eLook 3) (eCall 2 m__law_cut (aCons (eVar 4) (aCons (eVar 2) aNil)))) (eLst (aCons (eTup (aCons (eC (.str [115, 97, 109, 101])) (aCons (eVar 5) (aCons (eBi bMin2 (aCons (eLook 6) (aCons (eLook 2) aNil))) aNil)))) aNil)))) (vE (eC (.str []))))
    (sSet 6 (eBin opSub (eLook 6) (eBi bMin2 (aCons (eLook 6) (aCons (eLook 2) aNil)))))) 1000000 [.v (.str l), .v (.int least), .v (.int m), .v (.lst (s.1.map pkD)), .v (.str s.2.1), .v (.str [c]), .v (.int s.2.2.1)] h =
      let w := wh (wcond least) (wstep m c) s.2.2.1.toNat s
      .nx [.v (.str l), .v (.int least), .v (.int m), .v (.lst (w.1.map pkD)), .v (.str w.2.1), .v (.str [c]), .v (.int w.2.2.1)] h := by
    intro T c n s hn o hs
    refine (while_eq (fun s : Ws => [.v (.str l), .v (.int least), .v (.int m), .v (.lst (s.1.map pkD)), .v (.str s.2.1), .v (.str [c]), .v (.int s.2.2.1)]) (wcond least) (wstep m c) (WOk m c n T) (fun s => s.2.2.1.toNat) h (fun s o => ⟨?_, fun hc => ⟨.inl ?_, wstep_ok (by omega) (by omega) o hc⟩⟩) 1000000 _ s hs (Nat.le_refl _) o).1
    · simp [wcond]
    · obtain ⟨fd, hd, k, x⟩ := s
      have sz := o.sz
      simp only at sz
      have lc := cutF_len hd (m := m) (by omega)
      simp (disch := first | assumption | omega | (simp only [List.length_map, List.length_append, List.length_cons, List.length_nil, List.length_take, List.length_drop, List.length_replicate, List.length_range, repL_length, List.length_reverse, List.length_set, rgI_len, Int.toNat_natCast]; omega) | (simp; done) | fail) [-getElem?_pos, lcut_eq hd m h (by omega) (by omega) hm2, wstep, mnI, pkD]
  simp [b__law_packs, lawruns_eq l h (by omega)]
  refine for_eq rowD (fun s : Ps => [.v (.str l), .v (.int least), .v (.int m), .v (.lst (s.1.map pkD)), .v (.str s.2.1), s.2.2.1, s.2.2.2.1]) (pstep least m) (POk (runsF l)) (runsF l) ([], [], .u, .u, .u)
    ⟨(fun _ z => nomatch z), rfl, Nat.le_refl _⟩ (fun j r s e o => ?_) (fun o => ?_)
  · have hr := f1 r (List.mem_of_getElem? e)
    have hs := runs_small (List.mem_of_getElem? e)
    refine ⟨_, rfl, .inl ?_, pstep_ok (by omega) (by omega) o e hr⟩
    have n1 : (spread ((runsF l).take (j + 1))).length ≤ 400 := by
      rw [← f2] at hl
      have : spread (runsF l) = spread ((runsF l).take (j + 1)) ++ spread ((runsF l).drop (j + 1)) := by rw [← spread_app, List.take_append_drop]
      rw [this, List.length_append] at hl
      omega
    have w0 := wok_start (m := m) o e hr
    have i1 := inner _ r.1 _ _ n1 w0 (by show r.2.toNat < _; omega)
    have o1 := pstep_ok (least := least) (m := m) (by omega) (by omega) o e hr
    obtain ⟨c, k⟩ := r
    obtain ⟨fd, hd, x5, x6, x7⟩ := s
    have w1 := wh_ok (least := least) (m := m) (by omega) (by omega) k.toNat _ w0
    simp only [pstep] at i1 ⊢
    revert i1 w1
    generalize wh (wcond least) (wstep m c) k.toNat (fd, hd, k, x7) = w
    intro i1 w1
    obtain ⟨fd', hd', k', x'⟩ := w
    have sz := w1.sz
    have pos := w1.pos
    simp only at i1 sz pos
    simp (disch := first | assumption | omega | (simp only [List.length_map, List.length_append, List.length_cons, List.length_nil, List.length_take, List.length_drop, List.length_replicate, List.length_range, repL_length, List.length_reverse, List.length_set, rgI_len, Int.toNat_natCast]; omega) | (simp; done) | fail) [-getElem?_pos, rowD, i1]
  · have sz := o.sz
    rw [List.take_length, f2] at sz
    unfold packsF
    generalize (runsF l).foldl (pstep least m) ([], [], .u, .u, .u) = s at sz ⊢
    obtain ⟨fd, hd, x5, x6, x7⟩ := s
    simp only at sz
    have lc := cutF_len hd (m := m) (by omega)
    simp (disch := first | assumption | omega | (simp only [List.length_map, List.length_append, List.length_cons, List.length_nil, List.length_take, List.length_drop, List.length_replicate, List.length_range, repL_length, List.length_reverse, List.length_set, rgI_len, Int.toNat_natCast]; omega) | (simp; done) | fail) [-getElem?_pos, lcut_eq hd m h (by omega) (by omega) hm2]
theorem check_any (l : List Nat) (h : Hc) (hl : l.length ≤ 16777216) : m_check_text [.str l] h = if 400 < (l.length : Int) then .ex 1 h else .ok .non h := by
  show (b_check_text [.v (.str l)] h).toR = _
  simp (disch := first | assumption | omega | (simp only [List.length_map, List.length_append, List.length_cons, List.length_nil, List.length_take, List.length_drop, List.length_replicate, List.length_range, repL_length, List.length_reverse, List.length_set, rgI_len, Int.toNat_natCast]; omega) | (simp; done) | fail) [-getElem?_pos, b_check_text]
theorem pksT_len {ps : List Pk} {j : Nat} : (pksT (ps.take j)).length ≤ (pksT ps).length := by
  have : pksT ps = pksT (ps.take j) ++ pksT (ps.drop j) := by rw [← pksT_app, List.take_append_drop]
  rw [this, List.length_append]
  omega
theorem pksT_take {ps : List Pk} {j : Nat} {p : Pk} (e : ps[j]? = some p) : pksT (ps.take (j + 1)) = pksT (ps.take j) ++ pkT p := by
  rw [List.take_succ, e, pksT_app]
  simp [pksT]
theorem frompk_eq (ps : List Pk) (h : Hc) (ho : ∀ p ∈ ps, pkOk p) (hl : (pksT ps).length ≤ 400) : m_from_packs [.lst (ps.map pkD)] h = .ok (.str (pksT ps)) h := by
  show (b_from_packs [.v (.lst (ps.map pkD)), .u, .u] h).toR = _
  simp [b_from_packs]
  refine for_eq pkD (fun s : List Nat × Sl => [.v (.lst (ps.map pkD)), .v (.str s.1), s.2]) (fun s p => (s.1 ++ pkT p, .v (pkD p))) (fun j s => s.1 = pksT (ps.take j)) ps ([], .u) rfl (fun j p s e o => ?_) (fun o => ?_)
  · have hp := ho p (List.mem_of_getElem? e)
    have et := pksT_take e
    have l1 := pksT_len (ps := ps) (j := j + 1)
    obtain ⟨tx, x⟩ := s
    simp only at o
    subst o
    refine ⟨_, rfl, .inl ?_, et.symm⟩
    rw [et, List.length_append] at l1
    cases p with
    | same c k =>
      have hk : 1 ≤ k := hp
      have lk : (pkT (.same c k)).length = k.toNat := by simp [pkT]
      rw [lk] at l1
      have q1 : 0 < k := by omega
      have q2 : ¬ 401 < k := by omega
      have ck := check_ok (pksT (ps.take j) ++ List.replicate k.toNat c) h (by simp; omega)
      simp (disch := first | assumption | omega | (simp only [List.length_map, List.length_append, List.length_cons, List.length_nil, List.length_take, List.length_drop, List.length_replicate, List.length_range, repL_length, List.length_reverse, List.length_set, rgI_len, Int.toNat_natCast]; omega) | (simp; done) | fail) [-getElem?_pos, pkD, q1, q2, pkT, ck, rep_sign]
    | other s =>
      have hs : s ≠ [] := hp
      have ls : (pkT (.other s)).length = s.length := rfl
      rw [ls] at l1
      have ck := check_ok (pksT (ps.take j) ++ s) h (by simp; omega)
      simp (disch := first | assumption | omega | (simp only [List.length_map, List.length_append, List.length_cons, List.length_nil, List.length_take, List.length_drop, List.length_replicate, List.length_range, repL_length, List.length_reverse, List.length_set, rgI_len, Int.toNat_natCast]; omega) | (simp; done) | fail) [-getElem?_pos, pkD, hs, pkT, ck]
  · have e : (ps.foldl (fun (s : List Nat × Sl) p => (s.1 ++ pkT p, Sl.v (pkD p))) ([], .u)).1 = pksT ps := by rw [o, List.take_length]
    simp [e]
def pkZ (p : Pk) : Int := match p with
  | .same _ _ => 2
  | .other s => 1 + s.length
theorem pkZ_sum (ps : List Pk) (ho : ∀ p ∈ ps, pkOk p) : 0 ≤ (ps.map pkZ).sum ∧ (ps.map pkZ).sum ≤ 2 * (ps.length : Int) + (pksT ps).length := by
  induction ps with
  | nil => simp [pksT]
  | cons p ps ih =>
    obtain ⟨a, b⟩ := ih fun q hq => ho q (List.mem_cons_of_mem _ hq)
    have e : pksT (p :: ps) = pkT p ++ pksT ps := rfl
    rw [e, List.map_cons, List.sum_cons, List.length_append, List.length_cons]
    cases p with
    | same c k => simp only [pkZ]; omega
    | other s => simp only [pkZ, pkT]; omega
theorem size_eq (ps : List Pk) (h : Hc) (ho : ∀ p ∈ ps, pkOk p) (hl : (pksT ps).length ≤ 400) (hn : ps.length ≤ 1000) : m_size_of [.lst (ps.map pkD)] h = .ok (.int (ps.map pkZ).sum) h := by
  show (b_size_of [.v (.lst (ps.map pkD)), .u] h).toR = _
  obtain ⟨a, b⟩ := pkZ_sum ps ho
  simp [b_size_of, frompk_eq ps h ho hl]
  rw [sum_eq pkD pkZ ps (by omega) (fun p _ => by cases p <;> simp [pkZ]; omega) (by omega)]
  · simp
  · intro p hp
    refine ⟨_, rfl, ?_⟩
    have l1 : (pkT p).length ≤ 400 := by
      have : List.Sublist (pkT p) (pksT ps) := by
        obtain ⟨u, v, rfl⟩ := List.append_of_mem hp
        rw [pksT_app]
        have : pksT (p :: v) = pkT p ++ pksT v := rfl
        rw [this]
        exact (List.sublist_append_left _ _).trans (List.sublist_append_right _ _)
      have := this.length_le
      omega
    cases p with
    | same c k => simp [pkD, pkZ]
    | other s =>
      have ls : (pkT (.other s)).length = s.length := rfl
      rw [ls] at l1
      simp (disch := first | assumption | omega | (simp only [List.length_map, List.length_append, List.length_cons, List.length_nil, List.length_take, List.length_drop, List.length_replicate, List.length_range, repL_length, List.length_reverse, List.length_set, rgI_len, Int.toNat_natCast]; omega) | (simp; done) | fail) [-getElem?_pos, pkD, pkZ]
end Z

namespace Z
open PySem PySem.Spec L2
/-! the plain law: gaps_of, bit_runs, from_bit_runs, longest, saved -/
def gapsF (c : Nat) : Nat → List Nat → List Nat
  | n, [] => [n]
  | n, x :: r => if x = c then n :: gapsF c 0 r else gapsF c (n + 1) r
theorem spl_gaps (c : Nat) : ∀ (l acc : List Nat), (TL.spl [c] 0 acc l).map List.length = gapsF c acc.length l
  | [], acc => by simp [TL.spl, gapsF]
  | x :: r, acc => by
    have e : TL.pre [c] (x :: r) = decide (x = c) := by
      rw [Bool.eq_iff_iff]
      simp [TL.pre]
    by_cases q : x = c
    · subst q
      simp [TL.spl, e, gapsF, spl_gaps x r []]
    · have := spl_gaps c r (acc ++ [x])
      simp only [List.length_append, List.length_cons, List.length_nil] at this
      simp [TL.spl, e, q, gapsF, this]
theorem gapsF_len (c : Nat) : ∀ (l : List Nat) (n : Nat), (gapsF c n l).length ≤ l.length + 1 ∧ ∀ k ∈ gapsF c n l, k ≤ n + l.length
  | [], n => by simp [gapsF]
  | x :: r, n => by
    unfold gapsF
    split
    · obtain ⟨a, b⟩ := gapsF_len c r 0
      refine ⟨by simp; omega, fun k hk => ?_⟩
      rcases List.mem_cons.mp hk with rfl | hk
      · omega
      · have := b k hk
        rw [List.length_cons]
        omega
    · obtain ⟨a, b⟩ := gapsF_len c r (n + 1)
      refine ⟨by simp; omega, fun k hk => ?_⟩
      have := b k hk
      rw [List.length_cons]
      omega
theorem spl_len (c : Nat) : ∀ (l acc p : List Nat), p ∈ TL.spl [c] 0 acc l → p.length ≤ acc.length + l.length := fun l acc p hp => by
  have h1 : p.length ∈ (TL.spl [c] 0 acc l).map List.length := List.mem_map_of_mem hp
  rw [spl_gaps] at h1
  exact (gapsF_len c l acc.length).2 _ h1
theorem gaps_eq (l : List Nat) (c : Nat) (h : Hc) (hl : l.length ≤ 400) (hc : c < 256) : m_gaps_of [.str l, .str [c]] h = .ok (.tup ((gapsF c 0 l).map fun n => .int (n : Nat))) h := by
  show (b_gaps_of [.v (.str l), .v (.str [c]), .u] h).toR = _
  have sp : mSplit (.str l) (.str [c]) h = .ok (.lst ((TL.spl [c] 0 [] l).map D.str)) h := by
    simp [mSplit, hc]
    omega
  have gl := gapsF_len c l 0
  have n1 : (TL.spl [c] 0 [] l).length ≤ 401 := by
    have := congrArg List.length (spl_gaps c l [])
    rw [List.length_map] at this
    rw [this]
    simp only [List.length_nil]
    omega
  simp [b_gaps_of, check_ok l h hl, sp]
  rw [tup_eq D.str (fun p => D.int (p.length : Nat)) _ (by omega)]
  · have := spl_gaps c l []
    simp only [List.length_nil] at this
    rw [← this, List.map_map]
    rfl
  · intro p hp
    have := spl_len c l [] p hp
    simp only [List.length_nil] at this
    exact ⟨_, rfl, by simp (disch := first | assumption | omega | (simp only [List.length_map, List.length_append, List.length_cons, List.length_nil, List.length_take, List.length_drop, List.length_replicate, List.length_range, repL_length, List.length_reverse, List.length_set, rgI_len, Int.toNat_natCast]; omega) | (simp; done) | fail) [-getElem?_pos]⟩
/-- signs of rows that stand side by side differ -/
def Alt (rs : List (Nat × Int)) : Prop := ∀ (i : Nat) (a b : Nat × Int), rs[i]? = some a → rs[i + 1]? = some b → a.1 ≠ b.1
theorem alt_snoc {rs : List (Nat × Int)} {x : Nat × Int} (h : Alt rs) (hx : ∀ a, rs.getLast? = some a → a.1 ≠ x.1) : Alt (rs ++ [x]) := fun i a b ha hb => by
  have hi := (List.getElem?_eq_some_iff.mp hb).1
  rw [List.length_append, List.length_singleton] at hi
  rw [List.getElem?_append_left (by omega)] at ha
  by_cases q : i + 1 < rs.length
  · rw [List.getElem?_append_left q] at hb
    exact h i a b ha hb
  · rw [List.getElem?_append_right (by omega), show i + 1 - rs.length = 0 by omega] at hb
    cases hb
    refine hx a ?_
    rw [List.getLast?_eq_getElem?, show rs.length - 1 = i by omega]
    exact ha
theorem alt_runs (l : List Nat) : Alt (runsF l) := by
  suffices ∀ (l : List Nat) (acc : List (Nat × Int)), Alt acc → Alt (l.foldl stepR acc) from this l [] (fun i a b ha => by cases ha)
  intro l
  induction l with
  | nil => exact fun acc h => h
  | cons c l ih =>
    intro acc h
    refine ih _ ?_
    rcases List.eq_nil_or_concat acc with rfl | ⟨i, ⟨d, k⟩, rfl⟩
    · exact fun i a b ha hb => by
        have := (List.getElem?_eq_some_iff.mp hb).1
        simp [stepR] at this
    · rw [List.concat_eq_append] at h ⊢
      rw [stepR_end]
      split
      · rename_i q
        subst q
        intro j a b ha hb
        have hj := (List.getElem?_eq_some_iff.mp hb).1
        rw [List.length_append, List.length_singleton] at hj
        rw [List.getElem?_append_left (by omega)] at ha
        by_cases q : j + 1 < i.length
        · rw [List.getElem?_append_left q] at hb
          exact h j a b (by rw [List.getElem?_append_left (by omega)]; exact ha) (by rw [List.getElem?_append_left q]; exact hb)
        · rw [List.getElem?_append_right (by omega), show j + 1 - i.length = 0 by omega] at hb
          cases hb
          exact h j a (d, k) (by rw [List.getElem?_append_left (by omega)]; exact ha) (by rw [List.getElem?_append_right (by omega), show j + 1 - i.length = 0 by omega]; rfl)
      · rename_i q
        exact alt_snoc h fun a ha => by
          rw [List.getLast?_append] at ha
          cases ha
          exact q
/-- rows of lengths by turns told as bits, from a place on -/
def altF : Nat → List Int → List Nat
  | _, [] => []
  | p, k :: ks => List.replicate k.toNat (48 + p % 2) ++ altF (p + 1) ks
theorem altF_spread : ∀ (rs : List (Nat × Int)) (p : Nat), Alt rs → (∀ r ∈ rs, r.1 = 48 ∨ r.1 = 49) → (∀ r, rs.head? = some r → r.1 = 48 + p % 2) → altF p (rs.map (·.2)) = spread rs
  | [], _, _, _, _ => rfl
  | r :: rs, p, ha, hb, hh => by
    have e : spread (r :: rs) = List.replicate r.2.toNat r.1 ++ spread rs := rfl
    rw [List.map_cons, e]
    unfold altF
    rw [hh r rfl, altF_spread rs (p + 1) (fun i a b x y => ha (i + 1) a b x y) (fun x hx => hb x (List.mem_cons_of_mem _ hx)) fun s hs => ?_]
    cases rs with
    | nil => cases hs
    | cons s' rs =>
      cases hs
      have h1 := ha 0 r s rfl rfl
      have h2 := hh r rfl
      rcases hb s (List.mem_cons_of_mem _ List.mem_cons_self) with h3 | h3 <;> omega
theorem runs_head {l : List Nat} : (runsF l).head?.map (·.1) = l.head? := by
  obtain ⟨f1, f2, f3⟩ := runs_facts l
  cases e : runsF l with
  | nil =>
    rw [e] at f2
    rw [← f2]
    rfl
  | cons r rs =>
    have h1 := f1 r (by rw [e]; exact List.mem_cons_self)
    rw [e] at f2
    rw [← f2]
    have e2 : spread (r :: rs) = List.replicate r.2.toNat r.1 ++ spread rs := rfl
    obtain ⟨n, hn⟩ : ∃ n, r.2.toNat = n + 1 := ⟨r.2.toNat - 1, by omega⟩
    rw [e2, hn, List.replicate_succ]
    rfl
theorem runs_signs {l : List Nat} {r : Nat × Int} (h : r ∈ runsF l) : r.1 ∈ l := by
  obtain ⟨f1, f2, f3⟩ := runs_facts l
  rw [← f2]
  have := f1 r h
  exact List.mem_flatMap.mpr ⟨r, h, by rw [List.mem_replicate]; exact ⟨by omega, rfl⟩⟩
def bitF (l : List Nat) : List Int := (if l.head? = some 49 then [0] else []) ++ (runsF l).map (·.2)
theorem altF_bitF {l : List Nat} (hb : ∀ c ∈ l, c = 48 ∨ c = 49) : altF 0 (bitF l) = l := by
  obtain ⟨f1, f2, f3⟩ := runs_facts l
  have hh := runs_head (l := l)
  have hb2 : ∀ r ∈ runsF l, r.1 = 48 ∨ r.1 = 49 := fun r hr => hb _ (runs_signs hr)
  unfold bitF
  split
  · rename_i q
    show altF 0 (0 :: (runsF l).map (·.2)) = l
    unfold altF
    rw [altF_spread _ 1 (alt_runs l) hb2 fun r hr => by rw [hr, q] at hh; simpa using hh, f2]
    rfl
  · rename_i q
    rw [List.nil_append, altF_spread _ 0 (alt_runs l) hb2 fun r hr => ?_, f2]
    rw [hr] at hh
    have h1 : l.head? = some r.1 := hh.symm
    rcases hb2 r (List.mem_of_mem_head? hr) with h2 | h2
    · exact h2
    · rw [h1, h2] at q
      exact absurd rfl q
end Z

namespace Z
open PySem PySem.Spec L2
/-! the plain law: bit_runs, from_bit_runs -/
@[simp] theorem pl_rowD {n : Nat} {r : Nat × Int} : pl (n + 1) (rowD r) = true := by simp [rowD]
theorem mem_bits {l : List Nat} (hb : ∀ c ∈ l, c = 48 ∨ c = 49) : (l.any fun c => !decide (c ∈ [48, 49])) = false := by
  rw [List.any_eq_false]
  intro c hc
  rcases hb c hc with rfl | rfl <;> decide
theorem bits_eq (l : List Nat) (h : Hc) (hl : l.length ≤ 400) (hb : ∀ c ∈ l, c = 48 ∨ c = 49) : m_bit_runs [.str l] h = .ok (.tup ((bitF l).map D.int)) h := by
  show (b_bit_runs [.v (.str l), .u, .u, .u, .u] h).toR = _
  have rl := runs_len l
  have hh := runs_head (l := l)
  simp only [b_bit_runs, sSeq_ap, sIf_ap, tB1_ap, eAny_ap, iOf_ap, eVar_ap, List.getElem?_cons_zero, R.fn_ok, kItems_str]
  rw [any_eq (fun c => D.str [c]) (fun c => !decide (c ∈ [48, 49])) l (by omega) fun c _ => ⟨_, rfl, by simp⟩, mem_bits hb]
  simp [runs_eq l h hl]
  rw [lc_eq rowD (fun r => D.int r.2) _ (by omega) fun r _ => ⟨_, rfl, by simp⟩]
  have e1 : (runsF l).map (fun r => D.int r.2) = ((runsF l).map (·.2)).map D.int := by rw [List.map_map]; rfl
  cases q : runsF l with
  | nil =>
    rw [q] at hh
    have : l.head? = none := hh.symm
    simp [bitF, q, this]
  | cons r rs =>
    rw [q] at hh rl
    have hh : l.head? = some r.1 := hh.symm
    rw [List.length_cons] at rl
    have g1 : rs.length + 1 + 1 ≤ 16777216 := by omega
    by_cases q1 : r.1 = 49
    · simp (disch := first | assumption | omega | (simp only [List.length_map, List.length_append, List.length_cons, List.length_nil, List.length_take, List.length_drop, List.length_replicate, List.length_range, repL_length, List.length_reverse, List.length_set, rgI_len, Int.toNat_natCast]; omega) | (simp; done) | fail) [-getElem?_pos, bitF, q, hh, q1, rowD, List.map_map, Function.comp_def]
    · simp (disch := first | assumption | omega | (simp only [List.length_map, List.length_append, List.length_cons, List.length_nil, List.length_take, List.length_drop, List.length_replicate, List.length_range, repL_length, List.length_reverse, List.length_set, rgI_len, Int.toNat_natCast]; omega) | (simp; done) | fail) [-getElem?_pos, bitF, q, hh, q1, rowD, List.map_map, Function.comp_def]
def altO (p : Nat) (ks : List Int) : List (List Nat) := (ks.zipIdx p).map fun q => List.replicate q.1.toNat (48 + q.2 % 2)
theorem altO_flat : ∀ (ks : List Int) (p : Nat), (altO p ks).flatten = altF p ks
  | [], _ => rfl
  | k :: ks, p => by
    have := altO_flat ks (p + 1)
    unfold altO at this ⊢
    simp [altF, this]
theorem altO_len : ∀ (ks : List Int) (p : Nat), (∀ k ∈ ks, 0 ≤ k) → ((altO p ks).map List.length).sum = ks.sum.toNat ∧ 0 ≤ ks.sum
  | [], _, _ => by simp [altO]
  | k :: ks, p, h => by
    obtain ⟨a, b⟩ := altO_len ks (p + 1) fun x hx => h x (List.mem_cons_of_mem _ hx)
    have h0 := h k List.mem_cons_self
    unfold altO at a ⊢
    simp only [List.zipIdx_cons, List.map_cons, List.sum_cons, List.length_replicate, a]
    omega
theorem sum_ge : ∀ (ks : List Int) (k : Int), (∀ k ∈ ks, 0 ≤ k) → k ∈ ks → k ≤ ks.sum ∧ 0 ≤ ks.sum
  | [], k, _, h => nomatch h
  | x :: ks, k, h0, h => by
    have hx := h0 x List.mem_cons_self
    have s0 : 0 ≤ ks.sum := (altO_len ks 0 fun y hy => h0 y (List.mem_cons_of_mem _ hy)).2
    rw [List.sum_cons]
    rcases List.mem_cons.mp h with rfl | h
    · omega
    · have := (sum_ge ks k (fun y hy => h0 y (List.mem_cons_of_mem _ hy)) h).1
      omega
/-- rows of lengths joined, whatever tells the sign -/
theorem alt_join (em : EM) (t : Tg) (ρ : Rho) (ks : List Int) (h : Hc) (h0 : ∀ k ∈ ks, 0 ≤ k) (hs : ks.sum ≤ 1000) (hn : ks.length ≤ 1000)
    (he : ∀ k ∈ ks, ∀ i : Nat, i < 1000 → ∃ ρ1, bindD t (.tup [.int i, .int k]) ρ = some ρ1 ∧ em ρ1 h = .ok (.str (List.replicate k.toNat (48 + i % 2))) h) :
    R.bin2 mJoin (.str []) (R.lc t tYesM em ρ (.ok ((ks.zipIdx 0).map fun p => D.tup [.int p.2, .int p.1]) h)) = .ok (.str (altF 0 ks)) h := by
  rw [lc_eq (fun p : Int × Nat => D.tup [.int p.2, .int p.1]) (fun q => .str (List.replicate q.1.toNat (48 + q.2 % 2))) _ (by rw [List.length_zipIdx]; omega) fun p hp => ?_]
  · have a := altO_len ks 0 h0
    rw [R.bin2_ok, mJoin_ok (ps := altO 0 ks) (by simp [altO]) (by omega), altO_flat]
  · obtain ⟨k, i⟩ := p
    have := List.mem_zipIdx hp
    refine he k ?_ i (by omega)
    obtain ⟨_, _, e⟩ := this
    rw [e]
    exact List.getElem_mem _
theorem from_bits_eq (ks : List Int) (h : Hc) (hn : ks.length ≤ 400) (h0 : ∀ k ∈ ks, 0 ≤ k) (hs : ks.sum ≤ 400) : m_from_bit_runs [.lst (ks.map D.int)] h = if 0 ∈ ks.tail then .ex 1 h else .ok (.str (altF 0 ks)) h := by
  show (b_from_bit_runs [.v (.lst (ks.map D.int)), .u, .u] h).toR = _
  have c1 : (ks.any fun k => decide (k < 0)) = false := by
    rw [List.any_eq_false]
    intro k hk
    have := h0 k hk
    simpa using this
  simp only [b_from_bit_runs, sSeq_ap, sIf_ap, tOrM_ap, tB1_ap, eAny_ap, iOf_ap, eVar_ap, List.getElem?_cons_zero, R.fn_ok, kItems_lst]
  rw [any_eq D.int (fun k => decide (k < 0)) ks (by omega) fun c _ => ⟨_, rfl, by simp⟩, c1]
  have e1 : cutL (ks.map D.int) (some 1) none = ks.tail.map D.int := by
    rw [cutL_lo (by omega), List.map_tail, ← List.drop_one]
    rfl
  generalize ks.tail = ts at e1 ⊢
  have c2 : ¬ 400 < ks.sum := by omega
  simp [e1, c2]
  by_cases q : 0 ∈ ts
  · simp [q]
  · have each : ∀ k ∈ ks, k ≤ 400 := fun k hk => by
      have := (sum_ge ks k h0 hk).1
      omega
    simp only [q, if_false]
    rw [alt_join _ _ _ ks h h0 (by omega) (by omega)]
    · rfl
    · intro k hk i hi
      have h1 := h0 k hk
      have h2 := each k hk
      refine ⟨_, rfl, ?_⟩
      have ei : Int.fmod (i : Int) 2 = (i : Int) % 2 := Int.fmod_eq_emod_of_nonneg _ (by omega)
      have ea : atI [48, 49] ((i : Int) % 2) = some (48 + i % 2) := by
        rw [show (i : Int) % 2 = ((i % 2 : Nat) : Int) from rfl, atI_nat]
        rcases Nat.mod_two_eq_zero_or_one i with e | e <;> rw [e] <;> rfl
      simp (disch := first | assumption | omega | (simp only [List.length_map, List.length_append, List.length_cons, List.length_nil, List.length_take, List.length_drop, List.length_replicate, List.length_range, repL_length, List.length_reverse, List.length_set, rgI_len, Int.toNat_natCast]; omega) | (simp; done) | fail) [-getElem?_pos, ei, ea, rep_sign]
end Z

namespace Z
open PySem PySem.Spec L2
/-! the plain law: longest, saved -/
def tripD (r : Nat × Int × Int) : D := .tup [.str [r.1], .int r.2.1, .int r.2.2]
def bestD : Option (Nat × Int × Int) → D
  | none => .non
  | some r => tripD r
abbrev Ls := Option (Nat × Int × Int) × Int × Sl × Sl
def bestB (b : Option (Nat × Int × Int)) (r : Nat × Int) (pl : Int) : Option (Nat × Int × Int) := match b with
  | none => some (r.1, r.2, pl)
  | some q => if q.2.1 < r.2 then some (r.1, r.2, pl) else some q
def lstep (s : Ls) (r : Nat × Int) : Ls := (bestB s.1 r s.2.1, s.2.1 + r.2, .v (.str [r.1]), .v (.int r.2))
/-- the first of the longest -/
def First (rs : List (Nat × Int)) (k : Nat) (r : Nat × Int) : Prop := rs[k]? = some r ∧ (∀ (i : Nat) (q : Nat × Int), rs[i]? = some q → q.2 ≤ r.2) ∧ ∀ (i : Nat) (q : Nat × Int), i < k → rs[i]? = some q → q.2 < r.2
structure LOk (rs : List (Nat × Int)) (j : Nat) (s : Ls) : Prop where
  pl : s.2.1 = total (rs.take j)
  no : j = 0 → s.1 = none
  be : 0 < j → ∃ k r, First (rs.take j) k r ∧ s.1 = some (r.1, r.2, total (rs.take k))
theorem total_snoc (rs : List (Nat × Int)) (j : Nat) (r : Nat × Int) (e : rs[j]? = some r) : total (rs.take (j + 1)) = total (rs.take j) + r.2 := by
  rw [List.take_succ, e, total_app]
  simp [total]
theorem lstep_ok {rs : List (Nat × Int)} {j : Nat} {s : Ls} {r : Nat × Int} (o : LOk rs j s) (e : rs[j]? = some r) : LOk rs (j + 1) (lstep s r) := by
  obtain ⟨b, p, x, y⟩ := s
  obtain ⟨o1, o2, o3⟩ := o
  simp only at o1 o2 o3
  have hj := (List.getElem?_eq_some_iff.mp e).1
  have lt : (rs.take j).length = j := by rw [List.length_take]; omega
  have et : rs.take (j + 1) = rs.take j ++ [r] := by rw [List.take_succ, e]; rfl
  have at1 : ∀ (i : Nat) (q : Nat × Int), (rs.take j ++ [r])[i]? = some q → (i < j ∧ (rs.take j)[i]? = some q) ∨ (i = j ∧ q = r) := fun i q hq => by
    have hi := (List.getElem?_eq_some_iff.mp hq).1
    rw [List.length_append, List.length_singleton, lt] at hi
    by_cases z : i < j
    · rw [List.getElem?_append_left (by omega)] at hq
      exact .inl ⟨z, hq⟩
    · rw [List.getElem?_append_right (by omega), lt, show i - j = 0 by omega] at hq
      cases hq
      exact .inr ⟨by omega, rfl⟩
  have new : (∀ (i : Nat) (q : Nat × Int), (rs.take j)[i]? = some q → q.2 < r.2) → First (rs.take (j + 1)) j r := fun hlt => by
    rw [et]
    refine ⟨?_, fun i q hq => ?_, fun i q hi hq => ?_⟩
    · rw [List.getElem?_append_right (by omega), lt, Nat.sub_self]
      rfl
    · rcases at1 i q hq with ⟨_, z⟩ | ⟨_, rfl⟩
      · have := hlt i q z
        omega
      · omega
    · rcases at1 i q hq with ⟨_, z⟩ | ⟨z, _⟩
      · exact hlt i q z
      · omega
  refine ⟨by show p + r.2 = _; rw [total_snoc rs j r e, o1], fun z => by omega, fun _ => ?_⟩
  by_cases hz : j = 0
  · have hb := o2 hz
    subst hb
    refine ⟨j, r, new fun i q hq => ?_, ?_⟩
    · have := (List.getElem?_eq_some_iff.mp hq).1
      omega
    · show bestB none r p = _
      simp [bestB, o1]
  · obtain ⟨k, q, ⟨f1, f2, f3⟩, hb⟩ := o3 (by omega)
    subst hb
    have hk := (List.getElem?_eq_some_iff.mp f1).1
    rw [lt] at hk
    by_cases hc : q.2 < r.2
    · refine ⟨j, r, new fun i q' hq => by have := f2 i q' hq; omega, ?_⟩
      show bestB (some (q.1, q.2, _)) r p = _
      simp [bestB, hc, o1]
    · refine ⟨k, q, ?_, ?_⟩
      · rw [et]
        refine ⟨by rw [List.getElem?_append_left (by omega)]; exact f1, fun i q' hq => ?_, fun i q' hi hq => ?_⟩
        · rcases at1 i q' hq with ⟨_, z⟩ | ⟨_, rfl⟩
          · exact f2 i q' z
          · omega
        · rcases at1 i q' hq with ⟨_, z⟩ | ⟨z, _⟩
          · exact f3 i q' hi z
          · omega
      · show bestB (some (q.1, q.2, _)) r p = _
        simp [bestB, hc]
/-- what the longest run is: none of none, else the first of the longest -/
theorem longest_eq (l : List Nat) (h : Hc) (hl : l.length ≤ 400) : ∃ b, m_longest [.str l] h = .ok (bestD b) h ∧ (runsF l = [] → b = none) ∧ (runsF l ≠ [] → ∃ k r, First (runsF l) k r ∧ b = some (r.1, r.2, total ((runsF l).take k))) := by
  refine ⟨((runsF l).foldl lstep (none, 0, .u, .u)).1, ?_⟩
  have main : m_longest [.str l] h = .ok (bestD ((runsF l).foldl lstep (none, 0, .u, .u)).1) h ∧ LOk (runsF l) (runsF l).length ((runsF l).foldl lstep (none, 0, .u, .u)) := by
    have fo : ∀ j, j ≤ (runsF l).length → LOk (runsF l) j (((runsF l).take j).foldl lstep (none, 0, .u, .u)) := by
      intro j
      induction j with
      | zero => intro _; exact ⟨rfl, fun _ => rfl, fun z => by omega⟩
      | succ j ih =>
        intro hj
        have e : (runsF l)[j]? = some (runsF l)[j] := List.getElem?_eq_getElem (by omega)
        rw [List.take_succ, e, List.foldl_append]
        exact lstep_ok (ih (by omega)) e
    refine ⟨?_, by have := fo _ (Nat.le_refl _); rwa [List.take_length] at this⟩
    show (b_longest [.v (.str l), .u, .u, .u, .u] h).toR = _
    simp [b_longest, runs_eq l h hl]
    refine for_eq rowD (fun s : Ls => [.v (.str l), .v (bestD s.1), .v (.int s.2.1), s.2.2.1, s.2.2.2]) lstep (LOk (runsF l)) (runsF l) (none, 0, .u, .u) ⟨rfl, fun _ => rfl, fun z => by omega⟩ (fun j r s e o => ?_) (fun o => ?_)
    · refine ⟨_, rfl, .inl ?_, lstep_ok o e⟩
      obtain ⟨b, p, x, y⟩ := s
      cases b with
      | none => simp [rowD, bestD, lstep, bestB, tripD]
      | some q =>
        obtain ⟨c, k, pl⟩ := q
        by_cases hc : k < r.2
        · simp [rowD, bestD, lstep, bestB, tripD, hc]
        · simp [rowD, bestD, lstep, bestB, tripD, hc]
    · simp
  obtain ⟨e, o⟩ := main
  refine ⟨e, fun z => o.no (by rw [z]; rfl), fun z => ?_⟩
  obtain ⟨k, r, f, hb⟩ := o.be (List.length_pos_iff.mpr z)
  rw [List.take_length] at f
  exact ⟨k, r, f, hb⟩
theorem told_small (l : List Nat) (hl : l.length ≤ 400) : (toldF (runsF l)).length ≤ 5 * (runsF l).length := by
  have s := told_len (runsF l) fun r hr => by have := runs_small hr; omega
  have rl := runs_len l
  have : (toldF (runsF l)).length = (((runsF l).map partF).map List.length).sum := by
    unfold toldF
    rw [List.length_flatten]
  omega
theorem saved_eq (l : List Nat) (h : Hc) (hl : l.length ≤ 400) (hf : ∀ c ∈ l, c ∉ figs) : m_saved [.str l] h = .ok (.int (l.length - (toldF (runsF l)).length)) h := by
  show (b_saved [.v (.str l)] h).toR = _
  have := told_small l hl
  have := runs_len l
  simp (disch := first | assumption | omega | (simp only [List.length_map, List.length_append, List.length_cons, List.length_nil, List.length_take, List.length_drop, List.length_replicate, List.length_range, repL_length, List.length_reverse, List.length_set, rgI_len, Int.toNat_natCast]; omega) | (simp; done) | fail) [-getElem?_pos, b_saved, told_eq l h hl hf]
/-- the law's own reckoning of the first of the longest -/
theorem first_find {rs : List (Nat × Int)} {k : Nat} {r : Nat × Int} (f : First rs k r) : ((List.range rs.length).filter fun i => decide ((rs[i]?.getD (0, 0)).2 = r.2)).head? = some k := by
  obtain ⟨f1, f2, f3⟩ := f
  have hk := (List.getElem?_eq_some_iff.mp f1).1
  rw [List.head?_filter, List.find?_range_eq_some]
  refine ⟨by simp [f1], by simpa using hk, fun i hi => ?_⟩
  have e : rs[i]? = some rs[i] := List.getElem?_eq_getElem (by omega)
  have := f3 i _ hi e
  rw [e]
  simp
  omega
theorem maxI_top : ∀ ns : List Int, ns ≠ [] → maxI ns ∈ ns ∧ ∀ x ∈ ns, x ≤ maxI ns
  | [], h => absurd rfl h
  | [x], _ => by simp [maxI]
  | x :: y :: r, _ => by
    obtain ⟨a, b⟩ := maxI_top (y :: r) (by simp)
    have e : maxI (x :: y :: r) = max x (maxI (y :: r)) := rfl
    rw [e]
    refine ⟨?_, fun z hz => ?_⟩
    · rcases Int.le_total x (maxI (y :: r)) with q | q
      · rw [Int.max_eq_right q]; exact List.mem_cons_of_mem _ a
      · rw [Int.max_eq_left q]; exact List.mem_cons_self
    · rcases List.mem_cons.mp hz with rfl | hz
      · omega
      · have := b z hz
        omega
theorem first_max {rs : List (Nat × Int)} {k : Nat} {r : Nat × Int} (f : First rs k r) : maxI (rs.map (·.2)) = r.2 := by
  obtain ⟨f1, f2, f3⟩ := f
  have hm := List.mem_of_getElem? f1
  obtain ⟨a, b⟩ := maxI_top (rs.map (·.2)) (fun z => by rw [List.map_eq_nil_iff] at z; rw [z] at hm; cases hm)
  have h1 := b r.2 (List.mem_map_of_mem hm)
  obtain ⟨q, hq, e⟩ := List.mem_map.mp a
  obtain ⟨i, hi⟩ := List.getElem?_of_mem hq
  have h2 := f2 i q hi
  omega
end Z

namespace Z
open PySem PySem.Spec L2
/-! the plain law: the dice -/
theorem rounds_ok (ns : List Int) : ∃ h, m__law_rounds [.scr (ns.map D.int), .int 1] [] = .ok (.lst [.ref 0]) h ∧ Dc h := by
  have dice : ∀ n : Int, ∃ h, m__law_dice [.int n] [] = .ok (.ref 0) h ∧ Dc h := by
    intro n
    show ∃ h, (b__law_dice [.v (.int n)] []).toR = .ok (.ref 0) h ∧ Dc h
    by_cases c1 : -10 < n
    · by_cases c2 : n < 10
      · exact ⟨_, by simp [b__law_dice, c1, c2]; exact ⟨rfl, rfl, rfl⟩, _, _, _, rfl⟩
      · exact ⟨_, by simp [b__law_dice, c1, c2]; exact ⟨rfl, rfl, rfl⟩, _, _, _, rfl⟩
    · exact ⟨_, by simp [b__law_dice, c1]; exact ⟨rfl, rfl, rfl⟩, _, _, _, rfl⟩
  show ∃ h, (b__law_rounds [.v (.scr (ns.map D.int)), .v (.int 1), .u, .u] []).toR = .ok (.lst [.ref 0]) h ∧ Dc h
  have one : ∀ (n : Int) (ρ : Rho), ρ.length = 4 → ∃ h, R.lc (.n 3) tYesM (eCall 1 m__law_dice (aCons (eVar 3) aNil)) ρ (.ok [.int n] []) = .ok (.lst [.ref 0]) h ∧ Dc h := fun n ρ hl => by
    obtain ⟨h, e, d⟩ := dice n
    match ρ, hl with
    | [a, b, c, x], _ => exact ⟨h, R.lc_of (by simp) (by simp [lcLoop, tYesM, e]), d⟩
  cases ns with
  | nil =>
    obtain ⟨h, e, d⟩ := one 0 [.v (.scr []), .v (.int 1), .v (.lst [.int 0]), .u] rfl
    refine ⟨h, ?_, d⟩
    simp [b__law_rounds, cutL_hi, e]
  | cons n ns =>
    obtain ⟨h, e, d⟩ := one n [.v (.scr (.int n :: ns.map D.int)), .v (.int 1), .v (.lst [.int n]), .u] rfl
    refine ⟨h, ?_, d⟩
    simp [b__law_rounds, cutL_hi, e]
theorem faith_row : Faith rowD := fun a b => by
  obtain ⟨a1, a2⟩ := a
  obtain ⟨b1, b2⟩ := b
  simp [rowD]
theorem faith_pk : Faith pkD := fun a b => by
  cases a <;> cases b <;> simp [pkD]
@[simp] theorem pk_pl {n : Nat} {p : Pk} : pl (n + 1) (pkD p) = true := by cases p <;> simp [pkD]
def errD : D := .str [82, 117, 110, 69, 114, 114, 111, 114]
/-- what reading a text comes to -/
def readD (l : List Nat) : D := match readF l with
  | some rs => if total rs > 400 then errD else .str (spread rs)
  | none => errD
theorem small_total {rs : List (Nat × Int)} (h : ∀ r ∈ rs, r.2 ≤ 999) (hl : rs.length ≤ 1000) : total rs < 2 ^ 62 := by
  have := total_le (b := 999) h
  have h2 : 999 * (rs.length : Int) ≤ 999 * 1000 := by omega
  omega
theorem read_all (l : List Nat) (h : Hc) (hl : l.length ≤ 1000) : m_read_runs [.str l] h = (match readF l with
  | some rs => if total rs > 400 then .ex 1 h else .ok (.str (spread rs)) h
  | none => .ex 1 h) := by
  obtain ⟨k1, k2⟩ := read_eq l h hl
  cases q : readF l with
  | none => exact k2 q
  | some rs =>
    obtain ⟨a, b⟩ := readF_facts q
    have e : (rs.any fun r => decide (r.2 < 1)) = false := by
      rw [List.any_eq_false]
      intro r hr
      have := b r hr
      simp
      omega
    rw [k1 rs q, from_all rs h (by omega) (fun r hr => by have := b r hr; omega) (small_total (fun r hr => (b r hr).2) (by omega)), e]
    simp
theorem told_read (l : List Nat) (h : Hc) (hl : l.length ≤ 1000) : R.told subE [82, 117, 110, 69, 114, 114, 111, 114] (m_read_runs [.str l] h) = .ok (readD l) h := by
  rw [read_all l h hl]
  unfold readD
  cases readF l with
  | none => rfl
  | some rs =>
    simp only
    split <;> rfl
theorem lread_is (l : List Nat) (h : Hc) (ρ : Rho) (i : Nat) (e : ρ[i]? = some (.v (.str l))) (hl : l.length ≤ 1000) :
    R.iteE (R.fn (kIsNT true) (R.fnL (kCall 1 m__law_read) (aCons (eVar i) aNil ρ h))) (eCall 1 m__law_read (aCons (eVar i) aNil) ρ) (eC (.str [82, 117, 110, 69, 114, 114, 111, 114]) ρ) = .ok (readD l) h := by
  have k := lread_eq l h hl
  unfold readD
  cases q : readF l with
  | none => simp [e, k, q]; rfl
  | some rs =>
    by_cases z : total rs > 400
    · simp [e, k, q, z]; rfl
    · simp [e, k, q, z]
theorem readD_pl (l : List Nat) : pl 12 (readD l) = true ∧ nref (readD l) = true ∧ (readD l).eqv (readD l) = true := by
  unfold readD
  cases readF l with
  | none => exact ⟨rfl, rfl, rfl⟩
  | some rs =>
    simp only
    split
    · exact ⟨rfl, rfl, rfl⟩
    · exact ⟨rfl, rfl, by simp⟩
/-- drawn rows -/
theorem loose_ok {h : Hc} (d : Dc h) (x0 x2 x3 x4 x5 x6 x7 x8 x9 x10 x11 x12 x13 x14 x15 x16 x17 x18 x19 : Sl) (n : Nat) (hn : n ≤ 1000) : ∃ (rs : List (Nat × Int)) (h' : Hc), R.lc (.n 18) tYesM (eTup (aCons (eBin opIx (eC (.str [97, 98])) (eCall 2 m__law_roll (aCons (eVar 1) (aCons (eC (.int 2)) aNil)))) (aCons (eCall 2 m__law_roll (aCons (eVar 1) (aCons (eC (.int 5)) aNil))) aNil)))
    [x0, .v (.ref 0), x2, x3, x4, x5, x6, x7, x8, x9, x10, x11, x12, x13, x14, x15, x16, x17, x18, x19] (.ok ((rgI 0 n).map D.int) h) = .ok (.lst (rs.map rowD)) h' ∧ rs.length = n ∧ (∀ r ∈ rs, 0 ≤ r.2 ∧ r.2 ≤ 4) ∧ Dc h' := by
  obtain ⟨rs, h', e, hl, hr, d'⟩ := lc_draw (t := .n 18) (em := eTup (aCons (eBin opIx (eC (.str [97, 98])) (eCall 2 m__law_roll (aCons (eVar 1) (aCons (eC (.int 2)) aNil)))) (aCons (eCall 2 m__law_roll (aCons (eVar 1) (aCons (eC (.int 5)) aNil))) aNil)))
    (ρ := [x0, .v (.ref 0), x2, x3, x4, x5, x6, x7, x8, x9, x10, x11, x12, x13, x14, x15, x16, x17, x18, x19]) Dc rowD (fun r => 0 ≤ r.2 ∧ r.2 ≤ 4) ((rgI 0 n).map D.int) h d fun dd _ h1 d1 => by
      obtain ⟨a, h2, e2, a0, a1, d2⟩ := roll_ok (m := 2) d1 (by omega) (by omega)
      obtain ⟨b, h3, e3, b0, b1, d3⟩ := roll_ok (m := 5) d2 (by omega) (by omega)
      have ea : atI [97, 98] a = some (97 + a.toNat) := by
        rw [atI_pos a0]
        rcases (show a = 0 ∨ a = 1 by omega) with rfl | rfl <;> rfl
      exact ⟨_, rfl, (97 + a.toNat, b), h3, by simp [e2, e3, ea, rowD], ⟨b0, by show b ≤ 4; omega⟩, d3⟩
  refine ⟨rs, h', R.lc_of ?_ e, by rw [hl, List.length_map, rgI_len], hr, d'⟩
  rw [List.length_map, rgI_len]
  omega
/-- drawn lengths -/
theorem row_ok {h : Hc} (d : Dc h) (x0 x2 x3 x4 x5 x6 x7 x8 x9 x10 x11 x12 x13 x14 x15 x16 x17 x18 x19 : Sl) (n : Nat) (hn : n ≤ 1000) : ∃ (ks : List Int) (h' : Hc), R.lc (.n 18) tYesM (eCall 2 m__law_roll (aCons (eVar 1) (aCons (eC (.int 4)) aNil)))
    [x0, .v (.ref 0), x2, x3, x4, x5, x6, x7, x8, x9, x10, x11, x12, x13, x14, x15, x16, x17, x18, x19] (.ok ((rgI 0 n).map D.int) h) = .ok (.lst (ks.map D.int)) h' ∧ ks.length = n ∧ (∀ k ∈ ks, 0 ≤ k ∧ k ≤ 3) ∧ Dc h' := by
  obtain ⟨rs, h', e, hl, hr, d'⟩ := lc_draw (t := .n 18) (em := eCall 2 m__law_roll (aCons (eVar 1) (aCons (eC (.int 4)) aNil)))
    (ρ := [x0, .v (.ref 0), x2, x3, x4, x5, x6, x7, x8, x9, x10, x11, x12, x13, x14, x15, x16, x17, x18, x19]) Dc D.int (fun r => 0 ≤ r ∧ r ≤ 3) ((rgI 0 n).map D.int) h d fun dd _ h1 d1 => by
      obtain ⟨b, h3, e3, b0, b1, d3⟩ := roll_ok (m := 4) d1 (by omega) (by omega)
      exact ⟨_, rfl, b, h3, by simp [e3], ⟨b0, by omega⟩, d3⟩
  refine ⟨rs, h', R.lc_of ?_ e, by rw [hl, List.length_map, rgI_len], hr, d'⟩
  rw [List.length_map, rgI_len]
  omega
theorem total_sum (rs : List (Nat × Int)) : total rs = (rs.map (·.2)).sum := rfl
/-- what rows told freely come to -/
def looseD (rs : List (Nat × Int)) : D := if 0 ∈ rs.map (·.2) then errD else .str (spread rs)
theorem told_loose (rs : List (Nat × Int)) (h : Hc) (hl : rs.length ≤ 10) (hr : ∀ r ∈ rs, 0 ≤ r.2 ∧ r.2 ≤ 4) : R.told subE [82, 117, 110, 69, 114, 114, 111, 114] (m_from_runs [.lst (rs.map rowD)] h) = .ok (looseD rs) h := by
  have t1 := total_le (rs := rs) (b := 4) fun r hr' => (hr r hr').2
  have e : (rs.any fun r => decide (r.2 < 1)) = decide (0 ∈ rs.map (·.2)) := by
    rw [Bool.eq_iff_iff, List.any_eq_true, decide_eq_true_eq, List.mem_map]
    constructor
    · rintro ⟨r, h1, h2⟩
      have := hr r h1
      have := of_decide_eq_true h2
      exact ⟨r, h1, by omega⟩
    · rintro ⟨r, h1, h2⟩
      exact ⟨r, h1, by simp; omega⟩
  rw [from_all rs h (by omega) (fun r hr' => (hr r hr').1) (by omega), e]
  have c : ¬ 400 < total rs := by omega
  unfold looseD
  by_cases q : 0 ∈ rs.map (·.2)
  · simp only [q, decide_true, true_or, if_true]
    rfl
  · simp only [q, decide_false, c, or_false, Bool.false_eq_true, if_false]
    rfl
theorem looseD_self (rs : List (Nat × Int)) : pl 12 (looseD rs) = true ∧ nref (looseD rs) = true ∧ (looseD rs).eqv (looseD rs) = true := by
  unfold looseD
  split
  · exact ⟨rfl, rfl, rfl⟩
  · exact ⟨rfl, rfl, by simp⟩
/-- rows joined by the law -/
theorem law_join (rs : List (Nat × Int)) (h : Hc) (ρ : Rho) (em : EM) (hl : rs.length ≤ 400) (hr : ∀ r ∈ rs, 0 ≤ r.2) (ht : total rs ≤ 400) (he : ∀ r ∈ rs, ∃ ρ1, bindD (.t [.n 15, .n 19]) (rowD r) ρ = some ρ1 ∧ em ρ1 h = .ok (.str (List.replicate r.2.toNat r.1)) h) :
    R.bin2 mJoin (.str []) (R.lc (.t [.n 15, .n 19]) tYesM em ρ (.ok (rs.map rowD) h)) = .ok (.str (spread rs)) h := by
  rw [lc_eq rowD (fun r => .str (List.replicate r.2.toNat r.1)) rs (by omega) he]
  have s := spread_len rs hr
  rw [R.bin2_ok, mJoin_ok (ps := rs.map fun r => List.replicate r.2.toNat r.1) strs?_map (by omega)]
  rw [← List.flatMap_def]
  rfl

theorem law_told (rs : List (Nat × Int)) (h : Hc) (ρ : Rho) (em : EM) (t : Tg) (hl : rs.length ≤ 400) (hr : ∀ r ∈ rs, r.2 ≤ 1000) (he : ∀ r ∈ rs, ∃ ρ1, bindD t (rowD r) ρ = some ρ1 ∧ em ρ1 h = .ok (.str (partF r)) h) :
    R.bin2 mJoin (.str []) (R.lc t tYesM em ρ (.ok (rs.map rowD) h)) = .ok (.str (toldF rs)) h := by
  rw [lc_eq rowD (fun r => .str (partF r)) rs (by omega) he]
  have s := told_len rs hr
  rw [R.bin2_ok, mJoin_ok (ps := rs.map partF) strs?_map (by omega)]
  rfl
theorem pkZ_law (ps : List Pk) (h : Hc) (ρ : Rho) (em : EM) (hl : ps.length ≤ 1000) (he : ∀ p ∈ ps, ∃ ρ1, bindD (.n 13) (pkD p) ρ = some ρ1 ∧ em ρ1 h = .ok (.int (pkZ p)) h) :
    R.lc (.n 13) tYesM em ρ (.ok (ps.map pkD) h) = .ok (.lst ((ps.map pkZ).map D.int)) h := by
  rw [lc_eq pkD (fun p => .int (pkZ p)) ps (by omega) he, List.map_map]
  rfl
theorem counts_law (rs : List (Nat × Int)) (h : Hc) (ρ : Rho) (em : EM) (t : Tg) (hl : rs.length ≤ 1000) (he : ∀ r ∈ rs, ∃ ρ1, bindD t (rowD r) ρ = some ρ1 ∧ em ρ1 h = .ok (.int r.2) h) :
    R.lc t tYesM em ρ (.ok (rs.map rowD) h) = .ok (.lst ((rs.map (·.2)).map D.int)) h := by
  rw [lc_eq rowD (fun r => .int r.2) rs (by omega) he, List.map_map]
  rfl

theorem ne_self {x : D} {h : Hc} (p : pl 12 x = true) (n : nref x = true) (e : x.eqv x = true) : opNe x x h = .ok (.bl false) h := by rw [opNe_ok n n p p, e]; rfl
theorem odd_step (odd : List Nat) (h : Hc) (ρ : Rho) (e : ρ[5]? = some (.v (.str odd))) (hl : odd.length ≤ 1000) :
    R.fn kB (R.bin opNe (R.told subE [82, 117, 110, 69, 114, 114, 111, 114] (m_read_runs [.str odd] h)) (eIf (tIsNM true (eCall 1 m__law_read (aCons (eVar 5) aNil))) (eCall 1 m__law_read (aCons (eVar 5) aNil)) (eC (.str [82, 117, 110, 69, 114, 114, 111, 114])) ρ)) = .ok false h := by
  have k := lread_eq odd h hl
  have s := readD_pl odd
  rw [told_read odd h hl]
  have e2 : eIf (tIsNM true (eCall 1 m__law_read (aCons (eVar 5) aNil))) (eCall 1 m__law_read (aCons (eVar 5) aNil)) (eC (.str [82, 117, 110, 69, 114, 114, 111, 114])) ρ h = .ok (readD odd) h := by
    unfold readD
    cases q : readF odd with
    | none => simp [e, k, q]; rfl
    | some rs =>
      by_cases z : total rs > 400
      · simp [e, k, q, z]; rfl
      · simp [e, k, q, z]
  rw [R.bin_ok, e2, R.bin2_ok, ne_self s.1 s.2.1 s.2.2]
  rfl
theorem loose_step (rs : List (Nat × Int)) (h : Hc) (x0 x1 x2 x3 x4 x5 x7 x8 x9 x10 x11 x12 x13 x14 x15 x16 x17 x18 x19 : Sl) (hl : rs.length ≤ 10) (hr : ∀ r ∈ rs, 0 ≤ r.2 ∧ r.2 ≤ 4) :
    R.fn kB (R.bin opNe (R.told subE [82, 117, 110, 69, 114, 114, 111, 114] (m_from_runs [.lst (rs.map rowD)] h)) (eIf (tB1 (eBin opIn (eC (.int 0)) (eLc (.t [(.n 15), (.n 19)]) [15, 19] (iOf (eVar 6)) tYesM (eVar 19)))) (eC (.str [82, 117, 110, 69, 114, 114, 111, 114])) (eM1 mJoin (eC (.str [])) (eLc (.t [(.n 15), (.n 19)]) [15, 19] (iOf (eVar 6)) tYesM (eBin opMul (eLook 15) (eLook 19)))) [x0, x1, x2, x3, x4, x5, .v (.lst (rs.map rowD)), x7, x8, x9, x10, x11, x12, x13, x14, x15, x16, x17, x18, x19])) = .ok false h := by
  have s := looseD_self rs
  rw [told_loose rs h hl hr]
  have t1 := total_le (rs := rs) (b := 4) fun r hr' => (hr r hr').2
  have e2 : eIf (tB1 (eBin opIn (eC (.int 0)) (eLc (.t [(.n 15), (.n 19)]) [15, 19] (iOf (eVar 6)) tYesM (eVar 19)))) (eC (.str [82, 117, 110, 69, 114, 114, 111, 114])) (eM1 mJoin (eC (.str [])) (eLc (.t [(.n 15), (.n 19)]) [15, 19] (iOf (eVar 6)) tYesM (eBin opMul (eLook 15) (eLook 19)))) [x0, x1, x2, x3, x4, x5, .v (.lst (rs.map rowD)), x7, x8, x9, x10, x11, x12, x13, x14, x15, x16, x17, x18, x19] h = .ok (looseD rs) h := by
    simp
    rw [counts_law rs h _ _ _ (by omega) fun r hr => ⟨_, rfl, by simp⟩]
    unfold looseD
    generalize hc : rs.map (·.2) = cs
    by_cases q : 0 ∈ cs
    · simp [q]; rfl
    · simp [q]
      rw [law_join rs h _ _ (by omega) (fun r hr' => (hr r hr').1) (by omega) fun r hr' => ⟨_, rfl, by
        have := hr r hr'
        simp (disch := first | assumption | omega | (simp only [List.length_map, List.length_append, List.length_cons, List.length_nil, List.length_take, List.length_drop, List.length_replicate, List.length_range, repL_length, List.length_reverse, List.length_set, rgI_len, Int.toNat_natCast]; omega) | (simp; done) | fail) [-getElem?_pos, rep_sign]⟩]
  rw [R.bin_ok, e2, R.bin2_ok, ne_self s.1 s.2.1 s.2.2]
  rfl
/-- gaps by the law's own walk -/
def gstep (c : Nat) (s : List Nat × Nat × Sl) (x : Nat) : List Nat × Nat × Sl := (if x = c then s.1 ++ [s.2.1] else s.1, if x = c then 0 else s.2.1 + 1, .v (.str [x]))
theorem gaps_law (c : Nat) : ∀ (l : List Nat) (gs : List Nat) (n : Nat) (x : Sl), (l.foldl (gstep c) (gs, n, x)).1 ++ [(l.foldl (gstep c) (gs, n, x)).2.1] = gs ++ gapsF c n l
  | [], gs, n, _ => rfl
  | y :: l, gs, n, x => by
    have e : gapsF c n (y :: l) = if y = c then n :: gapsF c 0 l else gapsF c (n + 1) l := rfl
    rw [List.foldl_cons, e]
    by_cases q : y = c
    · have : gstep c (gs, n, x) y = (gs ++ [n], 0, .v (.str [y])) := by simp [gstep, q]
      rw [this, gaps_law c l, if_pos q, List.append_assoc]
      rfl
    · have : gstep c (gs, n, x) y = (gs, n + 1, .v (.str [y])) := by simp [gstep, q]
      rw [this, gaps_law c l, if_neg q]
theorem nat_ite {c : Prop} [Decidable c] {a b : Nat} : ((if c then a else b : Nat) : Int) = if c then (a : Int) else (b : Int) := by split <;> rfl
theorem map_ite {α β : Type} {c : Prop} [Decidable c] {f : α → β} {a b : List α} : (if c then a else b).map f = if c then a.map f else b.map f := by split <;> rfl
def natD (n : Nat) : D := .int (n : Int)
theorem faith_nat : Faith natD := fun a b => by simp [natD]; omega
@[simp] theorem pl_natD {n k : Nat} : pl n (natD k) = true := by simp [natD]
end Z

namespace Z
open PySem PySem.Spec L2
/-! the plain law: steps of the turn -/
theorem long_step (bits : List Nat) (h : Hc) (x0 x1 x2 x3 x4 x5 x6 x7 x8 x9 x10 x13 x14 x15 x16 x17 x18 x19 : Sl) (hl : bits.length ≤ 400) :
    eIf (tAndM (tB1 (eBin opNe (eLook 11) (eC (.str [])))) (tB1 (eBin opEq (eBin opIx (eLook 11) (eC (.int 0))) (eC (.str [49]))))) (eBin opAdd (eLst (aCons (eC (.int 0)) aNil)) (eLook 12)) (eVar 12)
      [x0, x1, x2, x3, x4, x5, x6, x7, x8, x9, x10, .v (.str bits), .v (.lst (((runsF bits).map (·.2)).map D.int)), x13, x14, x15, x16, x17, x18, x19] h = .ok (.lst ((bitF bits).map D.int)) h := by
  have rl := runs_len bits
  unfold bitF
  generalize hc : (runsF bits).map (·.2) = cs
  have lc : cs.length = (runsF bits).length := by rw [← hc, List.length_map]
  cases bits with
  | nil => simp
  | cons b bs =>
    simp only [List.length_cons] at hl rl
    by_cases q : b = 49
    · simp (disch := first | assumption | omega | (simp only [List.length_map, List.length_append, List.length_cons, List.length_nil, List.length_take, List.length_drop, List.length_replicate, List.length_range, repL_length, List.length_reverse, List.length_set, rgI_len, Int.toNat_natCast]; omega) | (simp; done) | fail) [-getElem?_pos, q]
    · simp (disch := first | assumption | omega | (simp only [List.length_map, List.length_append, List.length_cons, List.length_nil, List.length_take, List.length_drop, List.length_replicate, List.length_range, repL_length, List.length_reverse, List.length_set, rgI_len, Int.toNat_natCast]; omega) | (simp; done) | fail) [-getElem?_pos, q]
theorem bitF_ok {bits : List Nat} (hl : bits.length ≤ 300) : (bitF bits).length ≤ 400 ∧ (∀ k ∈ bitF bits, 0 ≤ k) ∧ (bitF bits).sum ≤ 400 ∧ 0 ∉ (bitF bits).tail := by
  obtain ⟨f1, f2, f3⟩ := runs_facts bits
  have rl := runs_len bits
  have pos : ∀ k ∈ (runsF bits).map (·.2), 1 ≤ k := fun k hk => by
    obtain ⟨r, hr, rfl⟩ := List.mem_map.mp hk
    exact f1 r hr
  have sum : ((runsF bits).map (·.2)).sum = bits.length := f3
  have ll : ((runsF bits).map (·.2)).length ≤ 300 := by rw [List.length_map]; omega
  unfold bitF
  generalize (runsF bits).map (·.2) = cs at pos sum ll
  split
  · refine ⟨by simp; omega, fun k hk => ?_, by simp; omega, fun hz => ?_⟩
    · rcases List.mem_cons.mp hk with rfl | hk
      · exact Int.le_refl 0
      · have := pos k hk; omega
    · have := pos 0 hz
      omega
  · rw [List.nil_append]
    refine ⟨by omega, fun k hk => by have := pos k hk; omega, by omega, fun hz => ?_⟩
    have := pos 0 (List.mem_of_mem_tail hz)
    omega
def rowX (ks : List Int) : D := if 0 ∈ ks.tail then errD else .str (altF 0 ks)
theorem row_step (ks : List Int) (h : Hc) (x0 x1 x2 x3 x4 x5 x6 x7 x8 x9 x10 x11 x12 x14 x15 x16 x17 x18 x19 : Sl) (hl : ks.length ≤ 10) (hr : ∀ k ∈ ks, 0 ≤ k ∧ k ≤ 3) :
    R.fn kB (R.bin opNe (R.told subE [82, 117, 110, 69, 114, 114, 111, 114] (m_from_bit_runs [.lst (ks.map D.int)] h)) (eIf (tB1 (eBin opIn (eC (.int 0)) (eSl (eLook 13) (pAt (eC (.int 1))) pNo))) (eC (.str [82, 117, 110, 69, 114, 114, 111, 114])) (eM1 mJoin (eC (.str [])) (eLc (.t [(.n 18), (.n 19)]) [18, 19] (iEnA (aCons (eVar 13) aNil)) tYesM (eBin opMul (eBin opIx (eC (.str [48, 49])) (eBin opSub (eLook 18) (eBin opMul (eBin opDiv (eLook 18) (eC (.int 2))) (eC (.int 2))))) (eLook 19))))
      [x0, x1, x2, x3, x4, x5, x6, x7, x8, x9, x10, x11, x12, .v (.lst (ks.map D.int)), x14, x15, x16, x17, x18, x19])) = .ok false h := by
  have sm : ks.sum ≤ 3 * ks.length := by
    clear hl
    induction ks with
    | nil => exact Int.le_refl 0
    | cons k ks ih =>
      have := ih fun x hx => hr x (List.mem_cons_of_mem _ hx)
      have := hr k List.mem_cons_self
      rw [List.sum_cons, List.length_cons]
      push_cast
      omega
  have e1 : R.told subE [82, 117, 110, 69, 114, 114, 111, 114] (m_from_bit_runs [.lst (ks.map D.int)] h) = .ok (rowX ks) h := by
    rw [from_bits_eq ks h (by omega) (fun k hk => (hr k hk).1) (by omega)]
    unfold rowX
    split <;> rfl
  have s : pl 12 (rowX ks) = true ∧ nref (rowX ks) = true ∧ (rowX ks).eqv (rowX ks) = true := by
    unfold rowX
    split
    · exact ⟨rfl, rfl, rfl⟩
    · exact ⟨rfl, rfl, by simp⟩
  have e3 : cutL (ks.map D.int) (some 1) none = ks.tail.map D.int := by
    rw [cutL_lo (by omega), List.map_tail, ← List.drop_one]
    rfl
  rw [e1, R.bin_ok]
  have e2 : (eIf (tB1 (eBin opIn (eC (.int 0)) (eSl (eLook 13) (pAt (eC (.int 1))) pNo))) (eC (.str [82, 117, 110, 69, 114, 114, 111, 114])) (eM1 mJoin (eC (.str [])) (eLc (.t [(.n 18), (.n 19)]) [18, 19] (iEnA (aCons (eVar 13) aNil)) tYesM (eBin opMul (eBin opIx (eC (.str [48, 49])) (eBin opSub (eLook 18) (eBin opMul (eBin opDiv (eLook 18) (eC (.int 2))) (eC (.int 2))))) (eLook 19))))
      [x0, x1, x2, x3, x4, x5, x6, x7, x8, x9, x10, x11, x12, .v (.lst (ks.map D.int)), x14, x15, x16, x17, x18, x19]) h = .ok (rowX ks) h := by
    unfold rowX
    generalize ks.tail = ts at e3 ⊢
    simp [e3]
    by_cases q : 0 ∈ ts
    · simp [q]; rfl
    · simp only [q, if_false]
      rw [alt_join _ _ _ ks h (fun k hk => (hr k hk).1) (by omega) (by omega)]
      intro k hk i hi
      have hk := hr k hk
      refine ⟨_, rfl, ?_⟩
      have ei : Int.fdiv (i : Int) 2 = ((i / 2 : Nat) : Int) := by
        rw [Int.fdiv_eq_ediv_of_nonneg _ (by omega)]
        rfl
      have ei2 : (i : Int) - ((i / 2 : Nat) : Int) * 2 = ((i % 2 : Nat) : Int) := by omega
      have ea : atI [48, 49] (((i % 2 : Nat) : Int)) = some (48 + i % 2) := by
        rw [atI_nat]
        rcases Nat.mod_two_eq_zero_or_one i with e | e <;> rw [e] <;> rfl
      have ec : (i : Int) - Int.fdiv (i : Int) 2 * 2 = ((i % 2 : Nat) : Int) := by rw [ei, ei2]
      have ed : atI [48, 49] ((i : Int) - Int.fdiv (i : Int) 2 * 2) = some (48 + i % 2) := by rw [ec, ea]
      simp (disch := first | assumption | omega | (simp only [List.length_map, List.length_append, List.length_cons, List.length_nil, List.length_take, List.length_drop, List.length_replicate, List.length_range, repL_length, List.length_reverse, List.length_set, rgI_len, Int.toNat_natCast]; omega) | (simp; done) | fail) [-getElem?_pos, ed, rep_sign]
  rw [e2, R.bin2_ok, ne_self s.1 s.2.1 s.2.2]
  rfl
theorem trip_pl {b : Option (Nat × Int × Int)} : pl 12 (bestD b) = true ∧ nref (bestD b) = true ∧ (bestD b).eqv (bestD b) = true := by
  cases b with
  | none => exact ⟨rfl, rfl, rfl⟩
  | some r => exact ⟨by simp [bestD, tripD], rfl, by simp [bestD, tripD]⟩
end Z

namespace Z
open PySem PySem.Spec L2
/-! the plain law: the turn, part by part -/
def st_0 : SM := (sSet 2 (eCall 3 m__law_text (aCons (eVar 1) (aCons (eC (.str [97, 98, 99])) (aCons (eC (.int 16)) aNil)))))
def st_1 : SM := (sSet 3 (eCall 1 m__law_runs (aCons (eVar 2) aNil)))
def st_2 : SM := (sSet 4 (eM1 mJoin (eC (.str [])) (eLc (.t [(.n 15), (.n 19)]) [15, 19] (iOf (eVar 3)) tYesM (eBin opAdd (eIf (tB1 (eBin opGt (eLook 19) (eC (.int 1)))) (eBi bStr (aCons (eLook 19) aNil)) (eC (.str []))) (eLook 15)))))
def st_3 : SM := (sIf (tOrM (tB1 (eBin opNe (eBi bList (aCons (eCall 1 m_runs (aCons (eVar 2) aNil)) aNil)) (eLook 3))) (tOrM (tB1 (eBin opNe (eCall 1 m_from_runs (aCons (eVar 3) aNil)) (eLook 2))) (tOrM (tB1 (eBin opNe (eCall 1 m_told_runs (aCons (eVar 2) aNil)) (eLook 4))) (tOrM (tB1 (eBin opNe (eCall 1 m_read_runs (aCons (eVar 4) aNil)) (eLook 2))) (tB1 (eBin opNe (eCall 1 m_saved (aCons (eVar 2) aNil)) (eBin opSub (eBi bLen (aCons (eLook 2) aNil)) (eBi bLen (aCons (eLook 4) aNil))))))))) (sRet (eC (.bl false))) sNx)
def st_4 : SM := (sSet 5 (eCall 3 m__law_text (aCons (eVar 1) (aCons (eBin opIx (eLst (aCons (eC (.str [97, 49])) (aCons (eC (.str [98, 48])) (aCons (eC (.str [50, 99])) (aCons (eC (.str [49, 50, 48, 51])) (aCons (eC (.str [97])) aNil)))))) (eCall 2 m__law_roll (aCons (eVar 1) (aCons (eC (.int 5)) aNil)))) (aCons (eC (.int 6)) aNil)))))
def st_5 : SM := (sIf (tB1 (eBin opNe (eTold subE [82, 117, 110, 69, 114, 114, 111, 114] (eCall 1 m_read_runs (aCons (eVar 5) aNil))) (eIf (tIsNM true (eCall 1 m__law_read (aCons (eVar 5) aNil))) (eCall 1 m__law_read (aCons (eVar 5) aNil)) (eC (.str [82, 117, 110, 69, 114, 114, 111, 114]))))) (sRet (eC (.bl false))) sNx)
def st_6 : SM := (sSet 6 (eLc (.n 18) [18] (iR1 (aCons (eCall 2 m__law_roll (aCons (eVar 1) (aCons (eC (.int 5)) aNil))) aNil)) tYesM (eTup (aCons (eBin opIx (eC (.str [97, 98])) (eCall 2 m__law_roll (aCons (eVar 1) (aCons (eC (.int 2)) aNil)))) (aCons (eCall 2 m__law_roll (aCons (eVar 1) (aCons (eC (.int 5)) aNil))) aNil)))))
def st_7 : SM := (sIf (tB1 (eBin opNe (eTold subE [82, 117, 110, 69, 114, 114, 111, 114] (eCall 1 m_from_runs (aCons (eVar 6) aNil))) (eIf (tB1 (eBin opIn (eC (.int 0)) (eLc (.t [(.n 15), (.n 19)]) [15, 19] (iOf (eVar 6)) tYesM (eVar 19)))) (eC (.str [82, 117, 110, 69, 114, 114, 111, 114])) (eM1 mJoin (eC (.str [])) (eLc (.t [(.n 15), (.n 19)]) [15, 19] (iOf (eVar 6)) tYesM (eBin opMul (eLook 15) (eLook 19))))))) (sRet (eC (.bl false))) sNx)
def st_8 : SM := (sSet 7 (eBin opAdd (eC (.int 2)) (eCall 2 m__law_roll (aCons (eVar 1) (aCons (eC (.int 3)) aNil)))))
def st_9 : SM := (sSet 8 (eBin opAdd (eLook 7) (eCall 2 m__law_roll (aCons (eVar 1) (aCons (eC (.int 4)) aNil)))))
def st_10 : SM := (sSet 9 (eCall 3 m__law_packs (aCons (eVar 2) (aCons (eVar 7) (aCons (eVar 8) aNil)))))
def st_11 : SM := (sIf (tOrM (tB1 (eBin opNe (eBi bList (aCons (eCall 3 m_packs (aCons (eVar 2) (aCons (eVar 7) (aCons (eVar 8) aNil)))) aNil)) (eLook 9))) (tOrM (tB1 (eBin opNe (eCall 1 m_from_packs (aCons (eVar 9) aNil)) (eLook 2))) (tOrM (tB1 (eBin opNe (eCall 1 m_size_of (aCons (eVar 9) aNil)) (eBi bSumA (aCons (eLc (.n 13) [13] (iOf (eVar 9)) tYesM (eIf (tB1 (eBin opEq (eBin opIx (eLook 13) (eC (.int 0))) (eC (.str [115, 97, 109, 101])))) (eC (.int 2)) (eBin opAdd (eC (.int 1)) (eBi bLen (aCons (eBin opIx (eLook 13) (eC (.int 1))) aNil))))) aNil)))) (tB1 (eBin opNe (eCall 2 m_others (aCons (eVar 2) (aCons (eVar 8) aNil))) (eCall 2 m__law_cut (aCons (eVar 2) (aCons (eVar 8) aNil)))))))) (sRet (eC (.bl false))) sNx)
def st_12 : SM := (sPar3 15 16 17 (eBin opIx (eC (.str [97, 98, 99, 100])) (eCall 2 m__law_roll (aCons (eVar 1) (aCons (eC (.int 4)) aNil)))) (eLst aNil) (eC (.int 0)))
def st_13 : SM := (sFor (.n 10) (iOf (eVar 2)) (sPar 16 17 (vE (eIf (tB1 (eBin opEq (eLook 10) (eLook 15))) (eBin opAdd (eLook 16) (eLst (aCons (eVar 17) aNil))) (eVar 16))) (vE (eIf (tB1 (eBin opEq (eLook 10) (eLook 15))) (eC (.int 0)) (eBin opAdd (eLook 17) (eC (.int 1)))))))
def st_14 : SM := (sIf (tB1 (eBin opNe (eBi bList (aCons (eCall 2 m_gaps_of (aCons (eVar 2) (aCons (eVar 15) aNil))) aNil)) (eBin opAdd (eLook 16) (eLst (aCons (eVar 17) aNil))))) (sRet (eC (.bl false))) sNx)
def st_15 : SM := (sSet 11 (eCall 3 m__law_text (aCons (eVar 1) (aCons (eC (.str [48, 49])) (aCons (eC (.int 12)) aNil)))))
def st_16 : SM := (sSet 12 (eLc (.t [(.n 10), (.n 19)]) [10, 19] (iOf (eCall 1 m__law_runs (aCons (eVar 11) aNil))) tYesM (eVar 19)))
def st_17 : SM := (sSet 12 (eIf (tAndM (tB1 (eBin opNe (eLook 11) (eC (.str [])))) (tB1 (eBin opEq (eBin opIx (eLook 11) (eC (.int 0))) (eC (.str [49]))))) (eBin opAdd (eLst (aCons (eC (.int 0)) aNil)) (eLook 12)) (eVar 12)))
def st_18 : SM := (sIf (tOrM (tB1 (eBin opNe (eBi bList (aCons (eCall 1 m_bit_runs (aCons (eVar 11) aNil)) aNil)) (eLook 12))) (tB1 (eBin opNe (eCall 1 m_from_bit_runs (aCons (eVar 12) aNil)) (eLook 11)))) (sRet (eC (.bl false))) sNx)
def st_19 : SM := (sSet 13 (eLc (.n 18) [18] (iR1 (aCons (eCall 2 m__law_roll (aCons (eVar 1) (aCons (eC (.int 5)) aNil))) aNil)) tYesM (eCall 2 m__law_roll (aCons (eVar 1) (aCons (eC (.int 4)) aNil)))))
def st_20 : SM := (sIf (tB1 (eBin opNe (eTold subE [82, 117, 110, 69, 114, 114, 111, 114] (eCall 1 m_from_bit_runs (aCons (eVar 13) aNil))) (eIf (tB1 (eBin opIn (eC (.int 0)) (eSl (eLook 13) (pAt (eC (.int 1))) pNo))) (eC (.str [82, 117, 110, 69, 114, 114, 111, 114])) (eM1 mJoin (eC (.str [])) (eLc (.t [(.n 18), (.n 19)]) [18, 19] (iEnA (aCons (eVar 13) aNil)) tYesM (eBin opMul (eBin opIx (eC (.str [48, 49])) (eBin opSub (eLook 18) (eBin opMul (eBin opDiv (eLook 18) (eC (.int 2))) (eC (.int 2))))) (eLook 19))))))) (sRet (eC (.bl false))) sNx)
def st_21 : SM := (sSet 14 (eLc (.n 18) [18] (iR1 (aCons (eBi bLen (aCons (eLook 3) aNil)) aNil)) (tB1 (eBin opEq (eBin opIx (eBin opIx (eLook 3) (eVar 18)) (eC (.int 1))) (eBi bMax (aCons (eLc (.t [(.n 10), (.n 19)]) [10, 19] (iOf (eVar 3)) tYesM (eVar 19)) aNil)))) (eVar 18)))
def st_22 : SM := (sIf (tB1 (eBin opNe (eCall 1 m_longest (aCons (eVar 2) aNil)) (eIf (tB1 (eBin opNe (eLook 14) (eLst aNil))) (eBin opAdd (eBin opIx (eLook 3) (eBin opIx (eLook 14) (eC (.int 0)))) (eTup (aCons (eBi bSumA (aCons (eLc (.t [(.n 10), (.n 19)]) [10, 19] (iOf (eSl (eLook 3) pNo (pAt (eBin opIx (eLook 14) (eC (.int 0)))))) tYesM (eVar 19)) aNil)) aNil))) (eC .non)))) (sRet (eC (.bl false))) sNx)
theorem b_law_eq : b_law = sSeq (sFor (.n 1) (iOf (eCall 2 m__law_rounds (aCons (eVar 0) (aCons (eC (.int 1)) aNil)))) (sSeq st_0 (sSeq st_1 (sSeq st_2 (sSeq st_3 (sSeq st_4 (sSeq st_5 (sSeq st_6 (sSeq st_7 (sSeq st_8 (sSeq st_9 (sSeq st_10 (sSeq st_11 (sSeq st_12 (sSeq st_13 (sSeq st_14 (sSeq st_15 (sSeq st_16 (sSeq st_17 (sSeq st_18 (sSeq st_19 (sSeq st_20 (sSeq st_21 st_22))))))))))))))))))))))) (sRet (eCall 0 m__law_plain aNil)) := rfl

theorem seg_a {h0 : Hc} (d0 : Dc h0) (x0 x2 x3 x4 x5 x6 x7 x8 x9 x10 x11 x12 x13 x14 x15 x16 x17 x18 x19 : Sl) : ∃ (l : List Nat) (h1 : Hc), Dc h1 ∧ l.length ≤ 60 ∧ (∀ c ∈ l, c ∈ [97, 98, 99]) ∧ ∀ k : SM, (sSeq st_0 (sSeq st_1 (sSeq st_2 (sSeq st_3 k)))) [x0, .v (.ref 0), x2, x3, x4, x5, x6, x7, x8, x9, x10, x11, x12, x13, x14, x15, x16, x17, x18, x19] h0 = k [x0, .v (.ref 0), .v (.str l), .v (.lst ((runsF l).map rowD)), .v (.str (toldF (runsF l))), x5, x6, x7, x8, x9, x10, x11, x12, x13, x14, x15, x16, x17, x18, x19] h1 := by
  obtain ⟨l, h1, e1, l1, s1, d1⟩ := text_ok (sg := [97, 98, 99]) (m := 16) d0 (by decide) (by decide) (by omega) (by omega)
  have hl : l.length ≤ 60 := by simpa using l1
  refine ⟨l, h1, d1, hl, s1, fun k => ?_⟩
  obtain ⟨f1, f2, f3⟩ := runs_facts l
  have rl := runs_len l
  have small : ∀ r ∈ runsF l, r.2 ≤ 60 := fun r hr => by have := runs_small hr; omega
  have nofig : ∀ c ∈ l, c ∉ figs := fun c hc => by
    have := s1 c hc
    simp only [List.mem_cons, List.not_mem_nil, or_false] at this
    rw [figs_in]
    omega
  have tot : total (runsF l) ≤ 400 := by omega
  have told := told_eq l h1 (by omega) nofig
  have tl := told_small l (by omega)
  simp (disch := first | assumption | omega | (simp only [List.length_map, List.length_append, List.length_cons, List.length_nil, List.length_take, List.length_drop, List.length_replicate, List.length_range, repL_length, List.length_reverse, List.length_set, rgI_len, Int.toNat_natCast]; omega) | (simp; done) | fail) [-getElem?_pos, st_0, st_1, st_2, e1, lawruns_eq l h1]
  rw [law_told (runsF l) h1 _ _ _ (by omega) (fun r hr => by have := small r hr; omega) fun r hr => ⟨_, rfl, by
    have h1 := f1 r hr
    have h2 := small r hr
    have h3 := numD_len (k := r.2) (by omega)
    by_cases q : 1 < r.2
    · simp (disch := first | assumption | omega | (simp only [List.length_map, List.length_append, List.length_cons, List.length_nil, List.length_take, List.length_drop, List.length_replicate, List.length_range, repL_length, List.length_reverse, List.length_set, rgI_len, Int.toNat_natCast]; omega) | (simp; done) | fail) [-getElem?_pos, partF, q]
    · simp (disch := first | assumption | omega | (simp only [List.length_map, List.length_append, List.length_cons, List.length_nil, List.length_take, List.length_drop, List.length_replicate, List.length_range, repL_length, List.length_reverse, List.length_set, rgI_len, Int.toNat_natCast]; omega) | (simp; done) | fail) [-getElem?_pos, partF, q]⟩]
  have fr := from_eq (runsF l) h1 (by omega) f1 tot
  rw [f2] at fr
  have rd := read_all (toldF (runsF l)) h1 (by omega)
  rw [read_told (runsF l) fun r hr => ⟨nofig _ (runs_signs hr), f1 r hr, by have := small r hr; omega⟩] at rd
  simp only [show ¬ total (runsF l) > 400 by omega, if_false, f2] at rd
  have sv := saved_eq l h1 (by omega) nofig
  have ee := eqvs_dec faith_row (runsF l) (runsF l)
  simp (disch := first | assumption | omega | (simp only [List.length_map, List.length_append, List.length_cons, List.length_nil, List.length_take, List.length_drop, List.length_replicate, List.length_range, repL_length, List.length_reverse, List.length_set, rgI_len, Int.toNat_natCast]; omega) | (simp; done) | fail) [-getElem?_pos, st_3, runs_eq l h1, ee, fr, told, rd, sv]
theorem seg_b {h1 : Hc} (d1 : Dc h1) (x0 x2 x3 x4 x5 x6 x7 x8 x9 x10 x11 x12 x13 x14 x15 x16 x17 x18 x19 : Sl) : ∃ (odd : List Nat) (h3 : Hc), Dc h3 ∧ ∀ k : SM, (sSeq st_4 (sSeq st_5 k)) [x0, .v (.ref 0), x2, x3, x4, x5, x6, x7, x8, x9, x10, x11, x12, x13, x14, x15, x16, x17, x18, x19] h1 = k [x0, .v (.ref 0), x2, x3, x4, .v (.str odd), x6, x7, x8, x9, x10, x11, x12, x13, x14, x15, x16, x17, x18, x19] h3 := by
  obtain ⟨k2, h2, e2, k20, k21, d2⟩ := roll_ok (m := 5) d1 (by omega) (by omega)
  obtain ⟨sg, esg, sg0, sg1⟩ : ∃ sg, atI [D.str [97, 49], D.str [98, 48], D.str [50, 99], D.str [49, 50, 48, 51], D.str [97]] k2 = some (D.str sg) ∧ 0 < sg.length ∧ sg.length ≤ 1000 := by
    rw [atI_pos k20]
    rcases (show k2 = 0 ∨ k2 = 1 ∨ k2 = 2 ∨ k2 = 3 ∨ k2 = 4 by omega) with rfl | rfl | rfl | rfl | rfl <;> exact ⟨_, rfl, by decide, by decide⟩
  obtain ⟨odd, h3, e3, l3, s3, d3⟩ := text_ok (sg := sg) (m := 6) d2 sg0 sg1 (by omega) (by omega)
  refine ⟨odd, h3, d3, fun k => ?_⟩
  simp (disch := first | assumption | omega | (simp only [List.length_map, List.length_append, List.length_cons, List.length_nil, List.length_take, List.length_drop, List.length_replicate, List.length_range, repL_length, List.length_reverse, List.length_set, rgI_len, Int.toNat_natCast]; omega) | (simp; done) | fail) [-getElem?_pos, st_4, st_5, e2, esg, e3]
  rw [odd_step odd h3 _ rfl (by omega)]
  simp
theorem seg_c {h3 : Hc} (d3 : Dc h3) (x0 x2 x3 x4 x5 x6 x7 x8 x9 x10 x11 x12 x13 x14 x15 x16 x17 x18 x19 : Sl) : ∃ (rs : List (Nat × Int)) (h5 : Hc), Dc h5 ∧ ∀ k : SM, (sSeq st_6 (sSeq st_7 k)) [x0, .v (.ref 0), x2, x3, x4, x5, x6, x7, x8, x9, x10, x11, x12, x13, x14, x15, x16, x17, x18, x19] h3 = k [x0, .v (.ref 0), x2, x3, x4, x5, .v (.lst (rs.map rowD)), x7, x8, x9, x10, x11, x12, x13, x14, x15, x16, x17, x18, x19] h5 := by
  obtain ⟨n4, h4, e4, n40, n41, d4⟩ := roll_ok (m := 5) d3 (by omega) (by omega)
  obtain ⟨rs, h5, e5, l5, r5, d5⟩ := loose_ok d4 x0 x2 x3 x4 x5 x6 x7 x8 x9 x10 x11 x12 x13 x14 x15 x16 x17 .u x19 n4.toNat (by omega)
  refine ⟨rs, h5, d5, fun k => ?_⟩
  simp (disch := first | assumption | omega | (simp only [List.length_map, List.length_append, List.length_cons, List.length_nil, List.length_take, List.length_drop, List.length_replicate, List.length_range, repL_length, List.length_reverse, List.length_set, rgI_len, Int.toNat_natCast]; omega) | (simp; done) | fail) [-getElem?_pos, st_6, st_7, e4, e5]
  rw [loose_step rs h5 _ _ _ _ _ _ _ _ _ _ _ _ _ _ _ _ _ _ _ (by omega) r5]
  simp
theorem seg_d {h5 : Hc} (d5 : Dc h5) (l : List Nat) (hl : l.length ≤ 60) (x0 x3 x4 x5 x6 x7 x8 x9 x10 x11 x12 x13 x14 x15 x16 x17 x18 x19 : Sl) : ∃ (least most : Nat) (ps : List Pk) (h7 : Hc), Dc h7 ∧ ∀ k : SM, (sSeq st_8 (sSeq st_9 (sSeq st_10 (sSeq st_11 k)))) [x0, .v (.ref 0), .v (.str l), x3, x4, x5, x6, x7, x8, x9, x10, x11, x12, x13, x14, x15, x16, x17, x18, x19] h5 = k [x0, .v (.ref 0), .v (.str l), x3, x4, x5, x6, .v (.int least), .v (.int most), .v (.lst (ps.map pkD)), x10, x11, x12, x13, x14, x15, x16, x17, x18, x19] h7 := by
  obtain ⟨k6, h6, e6, k60, k61, d6⟩ := roll_ok (m := 3) d5 (by omega) (by omega)
  obtain ⟨k7, h7, e7, k70, k71, d7⟩ := roll_ok (m := 4) d6 (by omega) (by omega)
  obtain ⟨least, hle⟩ : ∃ n : Nat, 2 + k6 = n := ⟨(2 + k6).toNat, by omega⟩
  obtain ⟨most, hmo⟩ : ∃ n : Nat, (least : Int) + k7 = n := ⟨((least : Int) + k7).toNat, by omega⟩
  obtain ⟨p1, p2, p3⟩ := packsF_ok (l := l) (least := least) (m := most) (by omega) (by omega)
  refine ⟨least, most, packsF least most (runsF l), h7, d7, fun k => ?_⟩
  have lp := lpacks_eq l least most h7 (by omega) (by omega) (by omega) (by omega)
  have pk := packs_eq l least most h7 (by omega) (by omega) (by omega) (by omega)
  have fp := frompk_eq (packsF least most (runsF l)) h7 p1 (by rw [p2]; omega)
  rw [p2] at fp
  have sz := size_eq (packsF least most (runsF l)) h7 p1 (by rw [p2]; omega) (by omega)
  have ot := others_eq l most h7 (by omega) (by omega) (by omega)
  have lc := lcut_eq l most h7 (by omega) (by omega) (by omega)
  generalize packsF least most (runsF l) = ps at p1 p2 p3 lp pk fp sz ⊢
  have ep : ∀ qs : List Pk, eqvs (qs.map pkD) (qs.map pkD) = true := fun qs => (eqvs_map faith_pk qs qs).mpr rfl
  simp (disch := first | assumption | omega | (simp only [List.length_map, List.length_append, List.length_cons, List.length_nil, List.length_take, List.length_drop, List.length_replicate, List.length_range, repL_length, List.length_reverse, List.length_set, rgI_len, Int.toNat_natCast]; omega) | (simp; done) | fail) [-getElem?_pos, st_8, st_9, st_10, st_11, e6, hle, e7, hmo, lp, pk, fp, sz, ep]
  rw [pkZ_law ps h7 _ _ (by omega) fun p hp => ⟨_, rfl, by
    have := p1 p hp
    have l1 : (pkT p).length ≤ 400 := by
      have : List.Sublist (pkT p) (pksT ps) := by
        obtain ⟨u, v, rfl⟩ := List.append_of_mem hp
        rw [pksT_app]
        have : pksT (p :: v) = pkT p ++ pksT v := rfl
        rw [this]
        exact (List.sublist_append_left _ _).trans (List.sublist_append_right _ _)
      have := this.length_le
      rw [p2] at this
      omega
    cases p with
    | same c k => simp [pkD, pkZ]
    | other s =>
      have ls : (pkT (.other s)).length = s.length := rfl
      rw [ls] at l1
      simp (disch := first | assumption | omega | (simp only [List.length_map, List.length_append, List.length_cons, List.length_nil, List.length_take, List.length_drop, List.length_replicate, List.length_range, repL_length, List.length_reverse, List.length_set, rgI_len, Int.toNat_natCast]; omega) | (simp; done) | fail) [-getElem?_pos, pkD, pkZ]⟩]
  simp (disch := first | assumption | omega | (simp only [List.length_map, List.length_append, List.length_cons, List.length_nil, List.length_take, List.length_drop, List.length_replicate, List.length_range, repL_length, List.length_reverse, List.length_set, rgI_len, Int.toNat_natCast]; omega) | (simp; done) | fail) [-getElem?_pos, ot, lc, ep]
theorem seg_e {h7 : Hc} (d7 : Dc h7) (l : List Nat) (hl : l.length ≤ 60) (x0 x3 x4 x5 x6 x7 x8 x9 x10 x11 x12 x13 x14 x15 x16 x17 x18 x19 : Sl) : ∃ (y10 y15 y16 y17 : Sl) (h8 : Hc), Dc h8 ∧ ∀ k : SM, (sSeq st_12 (sSeq st_13 (sSeq st_14 k))) [x0, .v (.ref 0), .v (.str l), x3, x4, x5, x6, x7, x8, x9, x10, x11, x12, x13, x14, x15, x16, x17, x18, x19] h7 = k [x0, .v (.ref 0), .v (.str l), x3, x4, x5, x6, x7, x8, x9, y10, x11, x12, x13, x14, y15, y16, y17, x18, x19] h8 := by
  obtain ⟨k8, h8, e8, k80, k81, d8⟩ := roll_ok (m := 4) d7 (by omega) (by omega)
  obtain ⟨sn, esn, sn1⟩ : ∃ sn, atI [97, 98, 99, 100] k8 = some sn ∧ sn < 256 := by
    rw [atI_pos k80]
    rcases (show k8 = 0 ∨ k8 = 1 ∨ k8 = 2 ∨ k8 = 3 by omega) with rfl | rfl | rfl | rfl <;> exact ⟨_, rfl, by decide⟩
  have ga := gaps_eq l sn h8 (by omega) sn1
  have gl := gaps_law sn l [] 0 x10
  have gn := (gapsF_len sn l 0).1
  rw [List.nil_append] at gl
  rw [← gl] at ga gn
  rw [List.length_append] at gn
  simp only [List.length_cons, List.length_nil] at gn
  generalize hg : l.foldl (gstep sn) ([], 0, x10) = gs at ga gn
  have eg := (eqvs_map faith_nat (gs.1 ++ [gs.2.1]) (gs.1 ++ [gs.2.1])).mpr rfl
  have ga : m_gaps_of [.str l, .str [sn]] h8 = .ok (.tup (gs.1.map natD ++ [.int gs.2.1])) h8 := by rw [ga, List.map_append]; rfl
  have eg : eqvs (gs.1.map natD ++ [.int gs.2.1]) (gs.1.map natD ++ [.int gs.2.1]) = true := by
    rw [List.map_append] at eg
    exact eg
  refine ⟨gs.2.2, .v (.str [sn]), .v (.lst (gs.1.map natD)), .v (.int gs.2.1), h8, d8, fun k => ?_⟩
  simp (disch := first | assumption | omega | (simp only [List.length_map, List.length_append, List.length_cons, List.length_nil, List.length_take, List.length_drop, List.length_replicate, List.length_range, repL_length, List.length_reverse, List.length_set, rgI_len, Int.toNat_natCast]; omega) | (simp; done) | fail) [-getElem?_pos, st_12, st_13, st_14, e8, esn]
  rw [loop_at (fun c => D.str [c]) (fun s : List Nat × Nat × Sl => [x0, .v (.ref 0), .v (.str l), x3, x4, x5, x6, x7, x8, x9, s.2.2, x11, x12, x13, x14, .v (.str [sn]), .v (.lst (s.1.map natD)), .v (.int s.2.1), x18, x19])
    (gstep sn) (fun j s => s.1.length ≤ j) l ([], 0, x10) ?e ?h0 ?st]
  case e => rfl
  case h0 => exact Nat.le_refl _
  case st =>
    intro j x s ex o
    have := (List.getElem?_eq_some_iff.mp ex).1
    obtain ⟨gs, n, y⟩ := s
    simp only at o
    refine ⟨_, rfl, .inl ?_, ?_⟩
    · by_cases q : x = sn
      · simp (disch := first | assumption | omega | (simp only [List.length_map, List.length_append, List.length_cons, List.length_nil, List.length_take, List.length_drop, List.length_replicate, List.length_range, repL_length, List.length_reverse, List.length_set, rgI_len, Int.toNat_natCast]; omega) | (simp; done) | fail) [-getElem?_pos, gstep, q, natD]
      · simp (disch := first | assumption | omega | (simp only [List.length_map, List.length_append, List.length_cons, List.length_nil, List.length_take, List.length_drop, List.length_replicate, List.length_range, repL_length, List.length_reverse, List.length_set, rgI_len, Int.toNat_natCast]; omega) | (simp; done) | fail) [-getElem?_pos, gstep, q, natD]
    · simp only [gstep]
      split
      · simp only [List.length_append, List.length_cons, List.length_nil]; omega
      · omega
  rw [hg]
  simp (disch := first | assumption | omega | (simp only [List.length_map, List.length_append, List.length_cons, List.length_nil, List.length_take, List.length_drop, List.length_replicate, List.length_range, repL_length, List.length_reverse, List.length_set, rgI_len, Int.toNat_natCast]; omega) | (simp; done) | fail) [-getElem?_pos, ga, eg]
theorem seg_f {h8 : Hc} (d8 : Dc h8) (x0 x2 x3 x4 x5 x6 x7 x8 x9 x10 x11 x12 x13 x14 x15 x16 x17 x18 x19 : Sl) : ∃ (bits : List Nat) (h9 : Hc), Dc h9 ∧ ∀ k : SM, (sSeq st_15 (sSeq st_16 (sSeq st_17 (sSeq st_18 k)))) [x0, .v (.ref 0), x2, x3, x4, x5, x6, x7, x8, x9, x10, x11, x12, x13, x14, x15, x16, x17, x18, x19] h8 = k [x0, .v (.ref 0), x2, x3, x4, x5, x6, x7, x8, x9, x10, .v (.str bits), .v (.lst ((bitF bits).map D.int)), x13, x14, x15, x16, x17, x18, x19] h9 := by
  obtain ⟨bits, h9, e9, l9, s9, d9⟩ := text_ok (sg := [48, 49]) (m := 12) d8 (by decide) (by decide) (by omega) (by omega)
  have lb : bits.length ≤ 44 := by simpa using l9
  have rb := runs_len bits
  have hb : ∀ c ∈ bits, c = 48 ∨ c = 49 := fun c hc => by simpa using s9 c hc
  refine ⟨bits, h9, d9, fun k => ?_⟩
  simp (disch := first | assumption | omega | (simp only [List.length_map, List.length_append, List.length_cons, List.length_nil, List.length_take, List.length_drop, List.length_replicate, List.length_range, repL_length, List.length_reverse, List.length_set, rgI_len, Int.toNat_natCast]; omega) | (simp; done) | fail) [-getElem?_pos, st_15, st_16, e9]
  rw [lawruns_eq bits h9 (by omega)]
  simp only [R.fn_ok, kItems_lst]
  rw [counts_law (runsF bits) h9 _ _ _ (by omega) fun r hr => ⟨_, rfl, by simp⟩]
  simp only [st_17, O.put_ok, O.andThen_nx, sSeq_ap, sSet_ap, List.set_cons_succ, List.set_cons_zero]
  rw [long_step bits h9 _ _ _ _ _ _ _ _ _ _ _ _ _ _ _ _ _ _ (by omega)]
  obtain ⟨b1, b2, b3, b4⟩ := bitF_ok (bits := bits) (by omega)
  have be := bits_eq bits h9 (by omega) hb
  have bf := from_bits_eq (bitF bits) h9 b1 b2 b3
  rw [if_neg b4, altF_bitF hb] at bf
  have ei : ∀ ks : List Int, eqvs (ks.map D.int) (ks.map D.int) = true := fun ks => (eqvs_map faith_int ks ks).mpr rfl
  simp (disch := first | assumption | omega | (simp only [List.length_map, List.length_append, List.length_cons, List.length_nil, List.length_take, List.length_drop, List.length_replicate, List.length_range, repL_length, List.length_reverse, List.length_set, rgI_len, Int.toNat_natCast]; omega) | (simp; done) | fail) [-getElem?_pos, st_18, be, bf, ei]
theorem seg_g {h9 : Hc} (d9 : Dc h9) (x0 x2 x3 x4 x5 x6 x7 x8 x9 x10 x11 x12 x13 x14 x15 x16 x17 x18 x19 : Sl) : ∃ (ks : List Int) (h11 : Hc), Dc h11 ∧ ∀ k : SM, (sSeq st_19 (sSeq st_20 k)) [x0, .v (.ref 0), x2, x3, x4, x5, x6, x7, x8, x9, x10, x11, x12, x13, x14, x15, x16, x17, x18, x19] h9 = k [x0, .v (.ref 0), x2, x3, x4, x5, x6, x7, x8, x9, x10, x11, x12, .v (.lst (ks.map D.int)), x14, x15, x16, x17, x18, x19] h11 := by
  obtain ⟨n10, h10, e10, n100, n101, d10⟩ := roll_ok (m := 5) d9 (by omega) (by omega)
  obtain ⟨ks, h11, e11, l11, r11, d11⟩ := row_ok d10 x0 x2 x3 x4 x5 x6 x7 x8 x9 x10 x11 x12 x13 x14 x15 x16 x17 .u x19 n10.toNat (by omega)
  refine ⟨ks, h11, d11, fun k => ?_⟩
  simp (disch := first | assumption | omega | (simp only [List.length_map, List.length_append, List.length_cons, List.length_nil, List.length_take, List.length_drop, List.length_replicate, List.length_range, repL_length, List.length_reverse, List.length_set, rgI_len, Int.toNat_natCast]; omega) | (simp; done) | fail) [-getElem?_pos, st_19, st_20, e10, e11]
  rw [row_step ks h11 _ _ _ _ _ _ _ _ _ _ _ _ _ _ _ _ _ _ _ (by omega) r11]
  simp
theorem ix_rows {rs : List (Nat × Int)} {k : Nat} {r : Nat × Int} (e : rs[k]? = some r) : atI (rs.map rowD) (k : Int) = some (rowD r) := by rw [atI_nat, List.getElem?_map, e]; rfl
theorem longs_of (h : Hc) (rs : List (Nat × Int)) (ρ : Rho) (hρ : ρ.length = 20) (hn : rs.length ≤ 60) : R.lc (.t [.n 10, .n 19]) tYesM (eVar 19) ρ (.ok (rs.map rowD) h) = .ok (.lst ((rs.map (·.2)).map D.int)) h :=
  counts_law rs h _ _ _ (by omega) fun r hr => ⟨_, rfl, by simp [hρ]⟩
theorem best_of (h : Hc) (rs : List (Nat × Int)) (ρ : Rho) (hρ : ρ.length = 20) (rl : rs.length ≤ 60) (e3 : ρ[3]? = some (.v (.lst (rs.map rowD)))) : R.lc (.n 18) (tB1 (eBin opEq (eBin opIx (eBin opIx (eLook 3) (eVar 18)) (eC (.int 1))) (eBi bMax (aCons (eLc (.t [(.n 10), (.n 19)]) [10, 19] (iOf (eVar 3)) tYesM (eVar 19)) aNil)))) (eVar 18) ρ (.ok ((rgI 0 rs.length).map D.int) h)
      = .ok (.lst (((List.range rs.length).filter fun i => decide ((rs[i]?.getD (0, 0)).2 = maxI (rs.map (·.2)))).map natD)) h := by
  have er : (rgI 0 rs.length).map D.int = (List.range rs.length).map natD := by
    unfold rgI
    rw [List.map_map]
    apply List.map_congr_left
    intro k _
    simp [natD]
  rw [er]
  refine lc_fil natD natD (fun i => decide ((rs[i]?.getD (0, 0)).2 = maxI (rs.map (·.2)))) (List.range rs.length) (by rw [List.length_range]; omega) fun i hi => ?_
  have hi := List.mem_range.mp hi
  have ei : rs[i]? = some rs[i] := List.getElem?_eq_getElem hi
  have e18 : (ρ.set 18 (.v (.int i)))[18]? = some (.v (.int i)) := List.getElem?_set_self (by omega)
  have e318 : (ρ.set 18 (.v (.int i)))[3]? = some (.v (.lst (rs.map rowD))) := by rw [List.getElem?_set_ne (by omega)]; exact e3
  refine ⟨_, rfl, ?_, fun _ => by simp only [natD, eVar_ap, e18]⟩
  have ix := ix_rows ei
  have mx := bMax_lst (h := h) (ds := (rs.map (·.2)).map D.int) (ns := rs.map (·.2)) (by simp) (by rw [List.length_map]; omega)
  simp only [tB1_ap, eBin_ap, eLook_ap, eVar_ap, natD, e318, e18, R.bin_ok, R.bin2_ok, opIx_lst, ix, ixD_some, rowD, opIx_tup, eC_ap, atI_1, eBi_ap, aCons_ap, eLc_ap, iOf_ap, R.fn_ok, kItems_lst]
  have lo := longs_of h rs (wipeR (ρ.set 18 (.v (.int i))) [10, 19]) (by simp [hρ]) rl
  rw [lo]
  simp only [aNil_ap, R.cons_ok, R.cons2_ok, R.fnL_ok, mx, R.bin2_ok, opEq_int, R.fn_ok, kB_bl, ei, Option.getD_some]
theorem seg_h (h : Hc) (l : List Nat) (hl : l.length ≤ 60) (x0 x1 x4 x5 x6 x7 x8 x9 x10 x11 x12 x13 x14 x15 x16 x17 x18 x19 : Sl) : ∃ ρ : Rho, (sSeq st_21 st_22) [x0, x1, .v (.str l), .v (.lst ((runsF l).map rowD)), x4, x5, x6, x7, x8, x9, x10, x11, x12, x13, x14, x15, x16, x17, x18, x19] h = .nx ρ h := by
  obtain ⟨b, eb, bn, bs⟩ := longest_eq l h (by omega)
  have rl := runs_len l
  have tp := trip_pl (b := b)
  have sf := ne_self (h := h) tp.1 tp.2.1 tp.2.2
  generalize hr : runsF l = rs at *
  have ct : cutL (rs.map rowD) none (some ((0 : Nat) : Int)) = [] := by rw [cutL_map, cutL_hi (by omega)]; rfl
  simp (disch := first | assumption | omega | (simp only [List.length_map, List.length_append, List.length_cons, List.length_nil, List.length_take, List.length_drop, List.length_replicate, List.length_range, repL_length, List.length_reverse, List.length_set, rgI_len, Int.toNat_natCast]; omega) | (simp; done) | fail) [-getElem?_pos, st_21, st_22, hr, eb]
  rw [best_of h rs _ rfl (by omega) rfl]
  by_cases hz : rs = []
  · obtain rfl := bn hz
    subst hz
    exact ⟨_, by simp [eb, bestD]; exact rfl⟩
  · obtain ⟨k, r, f, rfl⟩ := bs hz
    have hd := first_find f
    rw [← first_max f] at hd
    generalize (List.range rs.length).filter (fun i => decide ((rs[i]?.getD (0, 0)).2 = maxI (rs.map (·.2)))) = ks at hd
    cases ks with
    | nil => cases hd
    | cons k' ks =>
      cases hd
      have ix := ix_rows f.1
      have hk := (List.getElem?_eq_some_iff.mp f.1).1
      have ct : cutL (rs.map rowD) none (some (k : Int)) = (rs.take k).map rowD := by
        rw [cutL_map, cutL_hi (by omega), Int.toNat_natCast]
      simp [eb, natD, ix, rowD, ct]
      rw [← List.map_take, longs_of h (rs.take k) _ rfl (by rw [List.length_take]; omega)]
      have et : total (rs.take k) = ((rs.take k).map (·.2)).sum := rfl
      simp only [bestD, tripD, et]
      generalize (rs.take k).map (·.2) = cs
      simp (disch := first | assumption | omega | (simp only [List.length_map, List.length_append, List.length_cons, List.length_nil, List.length_take, List.length_drop, List.length_replicate, List.length_range, repL_length, List.length_reverse, List.length_set, rgI_len, Int.toNat_natCast]; omega) | (simp; done) | fail) [-getElem?_pos, rowD]
theorem lawplain_ok (h : Hc) : m__law_plain [] h = .ok (.bl true) h := by kernel_rfl
theorem plain_law : ∀ ns : List Int, ns.length ≤ 63 → (∀ z ∈ ns, Builtin.Int.intBits z ≤ 1048576) → ∃ h', m_law [.scr (ns.map D.int)] [] = .ok (.bl true) h' := by
  intro ns _ _
  obtain ⟨h0, e0, d0⟩ := rounds_ok ns
  obtain ⟨l, h1, d1, l1, s1, ea⟩ := seg_a d0 (.v (.scr (ns.map D.int))) .u .u .u .u .u .u .u .u .u .u .u .u .u .u .u .u .u .u
  obtain ⟨odd, h3, d3, eb⟩ := seg_b d1 (.v (.scr (ns.map D.int))) (.v (.str l)) (.v (.lst ((runsF l).map rowD))) (.v (.str (toldF (runsF l)))) .u .u .u .u .u .u .u .u .u .u .u .u .u .u .u
  obtain ⟨rs, h5, d5, ec⟩ := seg_c d3 (.v (.scr (ns.map D.int))) (.v (.str l)) (.v (.lst ((runsF l).map rowD))) (.v (.str (toldF (runsF l)))) (.v (.str odd)) .u .u .u .u .u .u .u .u .u .u .u .u .u .u
  obtain ⟨least, most, ps, h7, d7, ed⟩ := seg_d d5 l l1 (.v (.scr (ns.map D.int))) (.v (.lst ((runsF l).map rowD))) (.v (.str (toldF (runsF l)))) (.v (.str odd)) (.v (.lst (rs.map rowD))) .u .u .u .u .u .u .u .u .u .u .u .u .u
  obtain ⟨y10, y15, y16, y17, h8, d8, ee⟩ := seg_e d7 l l1 (.v (.scr (ns.map D.int))) (.v (.lst ((runsF l).map rowD))) (.v (.str (toldF (runsF l)))) (.v (.str odd)) (.v (.lst (rs.map rowD))) (.v (.int least)) (.v (.int most)) (.v (.lst (ps.map pkD))) .u .u .u .u .u .u .u .u .u .u
  obtain ⟨bits, h9, d9, ef⟩ := seg_f d8 (.v (.scr (ns.map D.int))) (.v (.str l)) (.v (.lst ((runsF l).map rowD))) (.v (.str (toldF (runsF l)))) (.v (.str odd)) (.v (.lst (rs.map rowD))) (.v (.int least)) (.v (.int most)) (.v (.lst (ps.map pkD))) y10 .u .u .u .u y15 y16 y17 .u .u
  obtain ⟨ks, h11, d11, eg⟩ := seg_g d9 (.v (.scr (ns.map D.int))) (.v (.str l)) (.v (.lst ((runsF l).map rowD))) (.v (.str (toldF (runsF l)))) (.v (.str odd)) (.v (.lst (rs.map rowD))) (.v (.int least)) (.v (.int most)) (.v (.lst (ps.map pkD))) y10 (.v (.str bits)) (.v (.lst ((bitF bits).map D.int))) .u .u y15 y16 y17 .u .u
  obtain ⟨ρ, eh⟩ := seg_h h11 l l1 (.v (.scr (ns.map D.int))) (.v (.ref 0)) (.v (.str (toldF (runsF l)))) (.v (.str odd)) (.v (.lst (rs.map rowD))) (.v (.int least)) (.v (.int most)) (.v (.lst (ps.map pkD))) y10 (.v (.str bits)) (.v (.lst ((bitF bits).map D.int))) (.v (.lst (ks.map D.int))) .u y15 y16 y17 .u .u
  refine ⟨h11, ?_⟩
  show (b_law (startR 20 [.scr (ns.map D.int)]) []).toR = _
  rw [b_law_eq]
  simp only [startR, List.map_cons, List.map_nil, List.length_cons, List.length_nil, List.cons_append, List.nil_append, Nat.reduceAdd, Nat.reduceSub, List.replicate]
  simp only [sSeq_ap (a := sFor _ _ _), sFor_ap, iOf_ap, eCall_ap, aCons_ap, eVar_ap, List.getElem?_cons_zero, R.cons_ok, eC_ap, R.cons2_ok, aNil_ap, R.fnL_ok, kCall_ok, List.length_cons, List.length_nil, Nat.reduceAdd, e0, R.fn_ok, kItems_lst, O.for_ok, loopM_one, List.set_cons_succ, List.set_cons_zero]
  rw [ea, eb, ec, ed, ee, ef, eg, eh]
  simp [lawplain_ok]
end Z

namespace Z
open PySem PySem.Spec PyProof.Rows L2
theorem cx_none {P : Program} {w : World} {outer : List Env} {H : Hp} {s s' : Shared} {u : Value} (h : L2.CX P w outer H s (fun _ _ _ => False) u s') : False := by
  obtain ⟨_, _, _, _, _, _, _, _, _, _, _, _, z⟩ := h
  exact z
end Z
namespace Z
open PySem PySem.Spec PyProof.Rows L2
abbrev RowL : PySem.W.OpenRow := PySem.W.OpenLaw.row PySem.Challenge.rw_zipstack_k02_the_same_sign_told_once
abbrev hookL : PySem.W.Hook := He.hookX 4 faL ddL [] tfL exL
def obL (s : PySem.W.SharedT) : He.AlX := He.obsX 4 faL ddL [] tfL exL (HandSHeadRun.getT s)
theorem obL_eq (s : PySem.W.SharedT) : obL s = hookL.obs s.abs := He.obsX_eq (HandSHeadRun.getT_eq s)
def looseL : List PySem.Str := (["ZipFault", "RunError", "MOST_TEXT", "check_text", "runs", "from_runs", "told_runs", "read_runs", "packs", "others", "from_packs", "size_of", "gaps_of", "bit_runs", "from_bit_runs", "longest", "saved", "_law_dice", "_law_roll", "_law_rounds", "_law_told", "_law_text", "_law_runs", "_law_read", "_law_cut", "_law_packs", "_law_plain"] : List PySem.Str)
theorem runL (w : World) : HandSHeadRun.RunEq RowL (PySem.W.view RowL.prog [30]) hookL obL 4000 looseL w := by
  intro os
  kernel_rfl
end Z
section
open PySem PySem.W PySem.Calls PyProof.Rows
theorem holds_zipstack_k02_the_same_sign_told_once : PySem.Challenge.rw_zipstack_k02_the_same_sign_told_once.Holds := by
  w_on; o_law
  refine HandSHeadRun.head_any (r := Z.RowL) (q := view Z.RowL.prog [30]) (H := Z.hookL) (ob := Z.obL) (M := 4000) (loose := Z.looseL) (d := HandSHeadRun.topDef Z.RowL.prog 30) (kwd := []) Z.obL_eq
    (by kernel_rfl) (fun s => by kernel_rfl) Z.runL (by kernel_rfl) (by kernel_rfl) (by kernel_rfl) (by rfl) (by first | assumption | decide +kernel) (by decide +kernel) ⟨rfl, rfl, rfl, rfl, rfl, by decide +kernel⟩ ?hw ?hc
  case hw => w_witness2
  case hc =>
    refine LamX.walk_ofTsE (l := PySem.Challenge.rw_zipstack_k02_the_same_sign_told_once) (n := 63) (k := 16) (x := "script") (CX := fun w => L2.CX (PySem.Challenge.rw_zipstack_k02_the_same_sign_told_once).prog w) rfl (by decide) (by kernel_rfl) ⟨rfl, by decide, by decide⟩ ?F (fun _ _ _ _ _ z => Z.cx_none z)
    case F =>
      intro w mg fa h Y N hmg0
      obtain ⟨K, KX, c⟩ := Y
      have hmg : mg ("law" : PySem.Str) = some (.ref fa) := by
        have e : (HandSHeadRun.topDef Z.RowL.prog 30).name = ("law" : PySem.Str) := by kernel_rfl
        rw [← e]
        exact hmg0
      exact ⟨K, KX, Z.law_at (G := Z.glK K) (m := Z.m_law) (st := Z.top 30) KX c 24 rfl (Z.tl_in K) rfl hmg (fun _ _ _ _ _ _ us hl => match us, hl with | [_], _ => rfl)
        (fun base kb nb tb => Z.z_law (Z.fx_of KX N c tb)) (He.glo_ok KX N (Z.fact_at c 24 rfl)) Z.plain_law⟩
end
theorem PySem.Challenge.cw_zipstack_k02_the_same_sign_told_once_holds : PySem.Challenge.rw_zipstack_k02_the_same_sign_told_once.Holds :=
  holds_zipstack_k02_the_same_sign_told_once
